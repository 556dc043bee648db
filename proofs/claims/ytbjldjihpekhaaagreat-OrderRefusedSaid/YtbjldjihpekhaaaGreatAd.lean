import Derived.Test.YtbjldjihpekhaaaGreatAc
/- slices.SortStableFunc at whole numbers; pairs that meet: told by functions on data. No conditions. -/
set_option linter.unusedVariables false
set_option maxRecDepth 100000
set_option maxHeartbeats 0
noncomputable section
namespace Go.DI.S
open Go.Proofs
def slotA (s:AS)(t o:Nat):Nat:=match s.r[t]? with
 | some (.agg cs)=>match cs[o]? with
  | some (.orow _ j)=>j
  | _=>0
 | _=>0
def T_w0:Tb:=mkTb tyT mpT []
theorem T_w0_ok:T_w0.Ok CT.P:=mkTb_ok trivial
def c_w56:Code:=Tryz.f237.body.getD .skip
theorem hb_w56:Tryz.f237.body=some c_w56:=by kernel_rfl
theorem hf_w56:CT.P.funcs[237]?=some Tryz.f237:=by kernel_rfl
def k_w56:CloneCode CT Tryz.f237 c_w56 169 where
 i0:=(partA c_w56).1
 i1:=(partB c_w56).1
 i2:=(partC c_w56).1
 ops0:=(partA c_w56).2
 ops1:=(partB c_w56).2
 ops2:=(partC c_w56).2
 rest:=restOf c_w56
 code:=by kernel_rfl
 s0:=by kernel_rfl
 s1:=by kernel_rfl
 s2:=by kernel_rfl
 o00:=((partA c_w56).2[0]?).getD default
 o10:=((partB c_w56).2[0]?).getD default
 o11:=((partB c_w56).2[1]?).getD default
 o20:=((partC c_w56).2[0]?).getD default
 h00:=by kernel_rfl
 h10:=by kernel_rfl
 h11:=by kernel_rfl
 h20:=by kernel_rfl
 g00:=⟨by kernel_rfl,by kernel_rfl,by kernel_rfl⟩
 g10:=⟨by kernel_rfl,by kernel_rfl,by kernel_rfl⟩
 g11:=⟨by kernel_rfl,by kernel_rfl,by kernel_rfl⟩
 g20:=⟨by kernel_rfl,by kernel_rfl,by kernel_rfl⟩
 nt:=by kernel_rfl
 res:=by kernel_rfl
def F_w56 (a1:Ty.El (.list tBody)):Option (List (Ty.El tBody)):=bif Nat.ble (List.length a1*64) 70368744177664 then some a1 else none
theorem f_w56 (l:List (Ty.El tBody)):codeT CT T_w0 (drT CT T_w0) (fun _ _ _=>none) (restOf c_w56) ⟨[.lst tBody l,.any,.nils,.any,.bool false,.any,.any,.any],[]⟩ (retO CT 64 tBody [.tmp 2])=F_w56 l:=by kernel_rfl
def E_w56:Ent:=.own 237 [] ⟨[.ty (.list tBody)],64,tBody,fun x=>F_w56 x.1⟩
theorem und_w25:CT.P.underlying 169=some (.slice 64):=by kernel_rfl
theorem lo_w56:loopsOf (restOf c_w56)=[]:=by kernel_rfl
theorem e_w56:E_w56.Ok CT.P:=by
 intro x y h
 have h:F_w56 x.1=some y:=h
 exact clone_own (e:=64) (bt:=64) CT_ok T_w0_ok hf_w56 hb_w56 k_w56 und_w25 lo_w56 (l:=x.1) (y:=y) ((f_w56 x.1).trans h) (fun h0=>by
  rw [h0] at h
  exact(Option.some.inj h).symm)
def c_w57:Code:=Tryz.f238.body.getD .skip
theorem hb_w57:Tryz.f238.body=some c_w57:=by kernel_rfl
theorem hf_w57:CT.P.funcs[238]?=some Tryz.f238:=by kernel_rfl
def k_w57:CloneCode CT Tryz.f238 c_w57 184 where
 i0:=(partA c_w57).1
 i1:=(partB c_w57).1
 i2:=(partC c_w57).1
 ops0:=(partA c_w57).2
 ops1:=(partB c_w57).2
 ops2:=(partC c_w57).2
 rest:=restOf c_w57
 code:=by kernel_rfl
 s0:=by kernel_rfl
 s1:=by kernel_rfl
 s2:=by kernel_rfl
 o00:=((partA c_w57).2[0]?).getD default
 o10:=((partB c_w57).2[0]?).getD default
 o11:=((partB c_w57).2[1]?).getD default
 o20:=((partC c_w57).2[0]?).getD default
 h00:=by kernel_rfl
 h10:=by kernel_rfl
 h11:=by kernel_rfl
 h20:=by kernel_rfl
 g00:=⟨by kernel_rfl,by kernel_rfl,by kernel_rfl⟩
 g10:=⟨by kernel_rfl,by kernel_rfl,by kernel_rfl⟩
 g11:=⟨by kernel_rfl,by kernel_rfl,by kernel_rfl⟩
 g20:=⟨by kernel_rfl,by kernel_rfl,by kernel_rfl⟩
 nt:=by kernel_rfl
 res:=by kernel_rfl
def O_w57 (l:List (Ty.El tJoint)):Option (List (Ty.El tJoint)):=bif Nat.ble (l.length*24) 70368744177664 then some l else none
theorem f_w57 (l:List (Ty.El tJoint)):codeT CT T_w0 (drT CT T_w0) (fun _ _ _=>none) (restOf c_w57) ⟨[.lst tJoint l,.any,.nils,.any,.bool false,.any,.any,.any],[]⟩ (retO CT 66 tJoint [.tmp 2])=O_w57 l:=by kernel_rfl
def F_w57 (a1:Ty.El (.list tJoint)):Option (Els [.list tJoint]):=(O_w57 a1).map fun l=>(l,())
def E_w57:Ent:=.fn 238 [] ⟨[.ty (.list tJoint)],[.list tJoint],fun x=>F_w57 x.1,false⟩
theorem und_w26:CT.P.underlying 184=some (.slice 66):=by kernel_rfl
theorem lo_w57:loopsOf (restOf c_w57)=[]:=by kernel_rfl
theorem e_w57:E_w57.Ok CT.P:=by
 intro x y h
 have h:F_w57 x.1=some y:=h
 unfold F_w57 at h
 obtain⟨l,hl,rfl⟩:=Option.map_eq_some_iff.1 h
 have h1:=clone_own (e:=66) (bt:=66) CT_ok T_w0_ok hf_w57 hb_w57 k_w57 und_w26 lo_w57 (l:=x.1) (y:=l) ((f_w57 x.1).trans hl) (fun h0=>by
  rw [h0] at hl
  exact(Option.some.inj hl).symm)
 exact h1.ownFreeze
def c_swr:Code:=Tryz.f339.body.getD .skip
abbrev IN_swr:LayD:=⟨5,[(0,.own I 0),(1,.data I),(2,.data I),(3,.data I),(4,.cloP 309 [1])],[.row 3 I,.var 317 [.data (.list tBox)]],fun s=>[slotR s 0,slotF s 4]⟩
abbrev OUT_swr:LayD:=⟨0,[],[.row 3 I,.var 317 [.data (.list tBox)]],fun _=>[0,1]⟩
def T_swr:Tb:=mkTb tyT mpT []
theorem T_swr_ok:T_swr.Ok CT.P:=mkTb_ok (trivial)
def l_swr_1:Code:=atLoop c_swr 1
abbrev LD_swr_1:LayD:=⟨38,[(0,.own I 0),(1,.data I),(2,.data I),(3,.data I),(10,.data I)],[.row 3 I,.var 317 [.data (.list tBox)]],fun s=>[0,1]⟩
abbrev LA_swr_1:LayD:=⟨38,[],[.row 3 I,.var 317 [.data (.list tBox)]],fun s=>[0,1]⟩
abbrev LB_swr_1:LayD:=⟨38,[],[],fun _=>[]⟩
def EX_swr_1:Exits 2 LA_swr_1.El LB_swr_1.El:=⟨.exit 0,LA_swr_1.lay [],.ret,LB_swr_1.lay []⟩
def G_swr_1 (r1:Ty.El I)(r2:Ty.El I)(r3:Ty.El I)(r10:Ty.El I)(b0:List (Ty.El I))(b1:Ty.El (.list tBox)×Unit):Option (LD_swr_1.El⊕(LA_swr_1.El⊕LB_swr_1.El)):=bif decide (r10<r3) then bif decide ((0:Int)≤IntKind.i64.wrap (r2+r10)∧IntKind.i64.wrap (r2+r10)<(↑b0.length:Int)) then bif decide ((0:Int)≤IntKind.i64.wrap (r1+r10)∧IntKind.i64.wrap (r1+r10)<(↑b0.length:Int)) then bif decide ((0:Int)≤IntKind.i64.wrap (r1+r10)∧IntKind.i64.wrap (r1+r10)<(↑b0.length:Int)) then bif decide ((0:Int)≤IntKind.i64.wrap (r2+r10)∧IntKind.i64.wrap (r2+r10)<(↑(b0.set (IntKind.i64.wrap (r1+r10)).toNat (b0.getD (IntKind.i64.wrap (r2+r10)).toNat (0:Int))).length:Int)) then some (Sum.inl (((),r1,r2,r3,IntKind.i64.wrap (r10+(1:Int)),()),(b0.set (IntKind.i64.wrap (r1+r10)).toNat (b0.getD (IntKind.i64.wrap (r2+r10)).toNat (0:Int))).set (IntKind.i64.wrap (r2+r10)).toNat (b0.getD (IntKind.i64.wrap (r1+r10)).toNat (0:Int)),(b1.1,()),())) else none else none else none else none else some (Sum.inr (Sum.inl ((),b0,(b1.1,()),())))
theorem g_swr_1 (x:LD_swr_1.El):codeT (CTp 2) T_swr (drT (CTp 2) T_swr) lp0 l_swr_1 (LD_swr_1.enc x) (bodyK (LD_swr_1.lay []) EX_swr_1)=G_swr_1 x.1.2.1 x.1.2.2.1 x.1.2.2.2.1 x.1.2.2.2.2.1 x.2.1 x.2.2.1:=by kernel_rfl
def R_swr_1:LD_swr_1.El→Option (LA_swr_1.El⊕LB_swr_1.El):=roundsT (fun x=>G_swr_1 x.1.2.1 x.1.2.2.1 x.1.2.2.2.1 x.1.2.2.2.2.1 x.2.1 x.2.2.1) fuel
def lp_swr {β:Type}:LpT β:=fun k s K=>if Nat.beq k 1 then lpOne (LD_swr_1.lay []) EX_swr_1 R_swr_1 s K else none
theorem lp_swr_ok {β:Type}:LpTOk (CTp 2) (lp_swr (β:=β)) (loopsOf c_swr):=LpTOk.is [(1,l_swr_1)] (by kernel_rfl) (LpTOk.cons (fun s K z h=>lpG (CTp_ok 2) T_swr_ok (lp0_ok (by kernel_rfl)) (L:=LD_swr_1.lay []) (E:=EX_swr_1) g_swr_1 rfl rfl rfl rfl h) (LpTOk.nil))
def F_swr (a1:Ty.El I)(a2:Ty.El I)(a3:Ty.El I)(b0:List (Ty.El I))(b1:Ty.El (.list tBox)×Unit):Option OUT_swr.El:=(R_swr_1 (((),a1,a2,a3,(0:Int),()),b0,(b1.1,()),())).bind fun v1=>Sum.elim (fun v2=>some ((),v2.2.1,(v2.2.2.1.1,()),())) (fun v3=>none) v1
theorem f_swr (x:IN_swr.El):funcX (CTp 2) T_swr IN_swr OUT_swr [] (drT (CTp 2) T_swr) lp_swr Tryz.f339 c_swr x=F_swr x.1.2.1 x.1.2.2.1 x.1.2.2.2.1 x.2.1 x.2.2.1:=by kernel_rfl
def E_swr:Ent:=.mkGen 339 [309] ⟨2,[.nilReg 0 3 I,.rowReg 0 3 I],IN_swr,OUT_swr,fun x=>F_swr x.1.2.1 x.1.2.2.1 x.1.2.2.2.1 x.2.1 x.2.2.1⟩
theorem e_swr:E_swr.Ok CT.P:=Ent.ofGen (C:=(CTp 2)) (steps:=[.nilReg 0 3 I,.rowReg 0 3 I]) (osteps:=[]) (CTp_ok 2) T_swr_ok (by kernel_rfl) (by kernel_rfl) lp_swr_ok f_swr
def c_rtt:Code:=Tryz.f337.body.getD .skip
abbrev IN_rtt:LayD:=⟨5,[(0,.own I 0),(1,.data I),(2,.data I),(3,.data I),(4,.cloP 309 [1])],[.row 3 I,.var 317 [.data (.list tBox)]],fun s=>[slotR s 0,slotF s 4]⟩
abbrev OUT_rtt:LayD:=⟨0,[],[.row 3 I,.var 317 [.data (.list tBox)]],fun _=>[0,1]⟩
def T_rtt:Tb:=mkTb tyT mpT [E_swr]
theorem T_rtt_ok:T_rtt.Ok CT.P:=mkTb_ok (⟨e_swr,trivial⟩)
def l_rtt_2:Code:=atLoop c_rtt 2
abbrev LD_rtt_2:LayD:=⟨58,[(0,.own I 0),(2,.data I),(4,.cloP 309 [1]),(10,.data I),(11,.data I)],[.row 3 I,.var 317 [.data (.list tBox)]],fun s=>[0,1]⟩
abbrev LA_rtt_2:LayD:=⟨58,[(0,.own I 0),(2,.data I),(4,.cloP 309 [1]),(10,.data I)],[.row 3 I,.var 317 [.data (.list tBox)]],fun s=>[0,1]⟩
abbrev LB_rtt_2:LayD:=⟨58,[],[],fun _=>[]⟩
def EX_rtt_2:Exits 2 LA_rtt_2.El LB_rtt_2.El:=⟨.exit 0,LA_rtt_2.lay [],.ret,LB_rtt_2.lay []⟩
def G_rtt_2 (r2:Ty.El I)(r10:Ty.El I)(r11:Ty.El I)(b0:List (Ty.El I))(b1:Ty.El (.list tBox)×Unit):Option (LD_rtt_2.El⊕(LA_rtt_2.El⊕LB_rtt_2.El)):=bif r10 != r11 then bif decide (r10>r11) then(F_swr (IntKind.i64.wrap (r2-r10)) r2 r11 b0 (b1.1,())).bind fun v2=>some (Sum.inl (((),r2,(),IntKind.i64.wrap (r10-r11),r11,()),v2.2.1,(v2.2.2.1.1,()),())) else(F_swr (IntKind.i64.wrap (r2-r10)) (IntKind.i64.wrap (IntKind.i64.wrap (r2+r11)-r10)) r10 b0 (b1.1,())).bind fun v8=>some (Sum.inl (((),r2,(),r10,IntKind.i64.wrap (r11-r10),()),v8.2.1,(v8.2.2.1.1,()),())) else some (Sum.inr (Sum.inl (((),r2,(),r10,()),b0,(b1.1,()),())))
theorem g_rtt_2 (x:LD_rtt_2.El):codeT (CTp 2) T_rtt (drT (CTp 2) T_rtt) lp0 l_rtt_2 (LD_rtt_2.enc x) (bodyK (LD_rtt_2.lay []) EX_rtt_2)=G_rtt_2 x.1.2.1 x.1.2.2.2.1 x.1.2.2.2.2.1 x.2.1 x.2.2.1:=by kernel_rfl
def R_rtt_2:LD_rtt_2.El→Option (LA_rtt_2.El⊕LB_rtt_2.El):=roundsT (fun x=>G_rtt_2 x.1.2.1 x.1.2.2.2.1 x.1.2.2.2.2.1 x.2.1 x.2.2.1) fuel
def lp_rtt {β:Type}:LpT β:=fun k s K=>if Nat.beq k 2 then lpOne (LD_rtt_2.lay []) EX_rtt_2 R_rtt_2 s K else none
theorem lp_rtt_ok {β:Type}:LpTOk (CTp 2) (lp_rtt (β:=β)) (loopsOf c_rtt):=LpTOk.is [(2,l_rtt_2)] (by kernel_rfl) (LpTOk.cons (fun s K z h=>lpG (CTp_ok 2) T_rtt_ok (lp0_ok (by kernel_rfl)) (L:=LD_rtt_2.lay []) (E:=EX_rtt_2) g_rtt_2 rfl rfl rfl rfl h) (LpTOk.nil))
def F_rtt (a1:Ty.El I)(a2:Ty.El I)(a3:Ty.El I)(b0:List (Ty.El I))(b1:Ty.El (.list tBox)×Unit):Option OUT_rtt.El:=(R_rtt_2 (((),a2,(),IntKind.i64.wrap (a2-a1),IntKind.i64.wrap (a3-a2),()),b0,(b1.1,()),())).bind fun v1=>Sum.elim (fun v2=>(F_swr (IntKind.i64.wrap (v2.1.2.1-v2.1.2.2.2.1)) v2.1.2.1 v2.1.2.2.2.1 v2.2.1 (v2.2.2.1.1,())).bind fun v4=>some ((),v4.2.1,(v4.2.2.1.1,()),())) (fun v9=>none) v1
theorem f_rtt (x:IN_rtt.El):funcX (CTp 2) T_rtt IN_rtt OUT_rtt [] (drT (CTp 2) T_rtt) lp_rtt Tryz.f337 c_rtt x=F_rtt x.1.2.1 x.1.2.2.1 x.1.2.2.2.1 x.2.1 x.2.2.1:=by kernel_rfl
def E_rtt:Ent:=.mkGen 337 [309] ⟨2,[.nilReg 0 3 I,.rowReg 0 3 I],IN_rtt,OUT_rtt,fun x=>F_rtt x.1.2.1 x.1.2.2.1 x.1.2.2.2.1 x.2.1 x.2.2.1⟩
theorem e_rtt:E_rtt.Ok CT.P:=Ent.ofGen (C:=(CTp 2)) (steps:=[.nilReg 0 3 I,.rowReg 0 3 I]) (osteps:=[]) (CTp_ok 2) T_rtt_ok (by kernel_rfl) (by kernel_rfl) lp_rtt_ok f_rtt
def c_sym:Code:=Tryz.f332.body.getD .skip
theorem hb_sym:Tryz.f332.body=some c_sym:=by kernel_rfl
theorem hf_sym:CT.P.funcs[332]?=some Tryz.f332:=by kernel_rfl
abbrev IN_sym:LayD:=⟨5,[(0,.own I 0),(1,.data I),(2,.data I),(3,.data I),(4,.cloP 309 [1])],[.row 3 I,.var 317 [.data (.list tBox)]],fun s=>[slotR s 0,slotF s 4]⟩
abbrev OUT_sym:LayD:=⟨0,[],[.row 3 I,.var 317 [.data (.list tBox)]],fun _=>[0,1]⟩
abbrev FT_sym:=(Ty.El I)→(Ty.El I)→(Ty.El I)→(List (Ty.El I))→(Ty.El (.list tBox)×Unit)→Option OUT_sym.El
def E_symx (f:FT_sym):Ent:=.mkGen 332 [309] ⟨2,[.nilReg 0 3 I,.rowReg 0 3 I],IN_sym,OUT_sym,fun x=>f x.1.2.1 x.1.2.2.1 x.1.2.2.2.1 x.2.1 x.2.2.1⟩
def T_sym (f:FT_sym):Tb:=mkTb tyT mpT [E_w287,E_rtt,(E_symx f)]
theorem T_sym_ok {f:FT_sym}(hf:(E_symx f).Ok CT.P):(T_sym f).Ok CT.P:=mkTb_ok (⟨e_w287,e_rtt,hf,trivial⟩)
def l_sym_33:Code:=atLoop c_sym 33
def l_sym_21:Code:=atLoop c_sym 21
def l_sym_15:Code:=atLoop c_sym 15
def l_sym_9:Code:=atLoop c_sym 9
def l_sym_3:Code:=atLoop c_sym 3
abbrev LD_sym_3:LayD:=⟨220,[(0,.own I 0),(1,.data I),(4,.cloP 309 [1]),(10,.data I),(11,.data I)],[.row 3 I,.var 317 [.data (.list tBox)]],fun s=>[0,1]⟩
abbrev LA_sym_3:LayD:=⟨220,[(0,.own I 0),(1,.data I),(10,.data I)],[.row 3 I,.var 317 [.data (.list tBox)]],fun s=>[0,1]⟩
abbrev LB_sym_3:LayD:=⟨220,[],[],fun _=>[]⟩
def EX_sym_3:Exits 2 LA_sym_3.El LB_sym_3.El:=⟨.exit 0,LA_sym_3.lay [],.ret,LB_sym_3.lay []⟩
def lpi_sym_3 {β:Type}:LpT β:=fun _ _ _=>none
theorem lpi_sym_3_ok {β:Type}:LpTOk (CTp 2) (lpi_sym_3 (β:=β)) (loopsOf l_sym_3):=LpTOk.is [] (by kernel_rfl) (LpTOk.nil)
def G_sym_3 (f:FT_sym)(r1:Ty.El I)(r10:Ty.El I)(r11:Ty.El I)(b0:List (Ty.El I))(b1:Ty.El (.list tBox)×Unit):Option (LD_sym_3.El⊕(LA_sym_3.El⊕LB_sym_3.El)):=bif decide (r10<r11) then bif decide ((0:Int)≤IntKind.i64.wrap ((IntKind.u64.wrap (IntKind.i64.wrap (r10+r11))).fdiv (2:Int))∧IntKind.i64.wrap ((IntKind.u64.wrap (IntKind.i64.wrap (r10+r11))).fdiv (2:Int))<(↑b0.length:Int)) then bif decide ((0:Int)≤r1∧r1<(↑b0.length:Int)) then(F_w287 (b0.getD (IntKind.i64.wrap ((IntKind.u64.wrap (IntKind.i64.wrap (r10+r11))).fdiv (2:Int))).toNat (0:Int)) (b0.getD (Int.toNat r1) (0:Int)) (b1.1,())).bind fun v2=>bif decide (v2.1.1<(0:Int)) then some (Sum.inl (((),r1,(),IntKind.i64.wrap (IntKind.i64.wrap ((IntKind.u64.wrap (IntKind.i64.wrap (r10+r11))).fdiv (2:Int))+(1:Int)),r11,()),b0,(v2.2.1.1,()),())) else some (Sum.inl (((),r1,(),r10,IntKind.i64.wrap ((IntKind.u64.wrap (IntKind.i64.wrap (r10+r11))).fdiv (2:Int)),()),b0,(v2.2.1.1,()),())) else none else none else some (Sum.inr (Sum.inl (((),r1,r10,()),b0,(b1.1,()),())))
theorem g_sym_3 (f:FT_sym)(x:LD_sym_3.El):codeT (CTp 2) (T_sym f) (drT (CTp 2) (T_sym f)) lpi_sym_3 l_sym_3 (LD_sym_3.enc x) (bodyK (LD_sym_3.lay []) EX_sym_3)=(G_sym_3 f) x.1.2.1 x.1.2.2.2.1 x.1.2.2.2.2.1 x.2.1 x.2.2.1:=by kernel_rfl
def R_sym_3 (f:FT_sym):LD_sym_3.El→Option (LA_sym_3.El⊕LB_sym_3.El):=roundsT (fun x=>(G_sym_3 f) x.1.2.1 x.1.2.2.2.1 x.1.2.2.2.2.1 x.2.1 x.2.2.1) fuel
theorem r_sym_3 {f:FT_sym}(hf:(E_symx f).Ok CT.P):∀ x y,(R_sym_3 f) x=some y→CL (CTp 2) l_sym_3 (LD_sym_3.enc x) (Sum.elim (fun _=>EX_sym_3.xa) (fun _=>EX_sym_3.xb) y) (Sum.elim EX_sym_3.la.enc EX_sym_3.lb.enc y):=
 rounds_ok (L:=LD_sym_3.lay []) (E:=EX_sym_3) (CTp_ok 2) (T_sym_ok hf) (drT_ok (CTp_ok 2) (T_sym_ok hf)) lpi_sym_3_ok (g_sym_3 f) rfl rfl (fun v h=>by have hh:(.exit 0:AX)=.pan v:=h;cases hh) (fun v h=>by have hh:(.ret:AX)=.pan v:=h;cases hh) fuel
abbrev LD_sym_9:LayD:=⟨220,[(0,.own I 0),(10,.data I),(13,.data I)],[.row 3 I,.var 317 [.data (.list tBox)]],fun s=>[0,1]⟩
abbrev LA_sym_9:LayD:=⟨220,[],[.row 3 I,.var 317 [.data (.list tBox)]],fun s=>[0,1]⟩
abbrev LB_sym_9:LayD:=⟨220,[],[],fun _=>[]⟩
def EX_sym_9:Exits 2 LA_sym_9.El LB_sym_9.El:=⟨.exit 2,LA_sym_9.lay [],.ret,LB_sym_9.lay []⟩
def lpi_sym_9 {β:Type}:LpT β:=fun _ _ _=>none
theorem lpi_sym_9_ok {β:Type}:LpTOk (CTp 2) (lpi_sym_9 (β:=β)) (loopsOf l_sym_9):=LpTOk.is [] (by kernel_rfl) (LpTOk.nil)
def G_sym_9 (f:FT_sym)(r10:Ty.El I)(r13:Ty.El I)(b0:List (Ty.El I))(b1:Ty.El (.list tBox)×Unit):Option (LD_sym_9.El⊕(LA_sym_9.El⊕LB_sym_9.El)):=bif decide (r13<IntKind.i64.wrap (r10-(1:Int))) then bif decide ((0:Int)≤IntKind.i64.wrap (r13+(1:Int))∧IntKind.i64.wrap (r13+(1:Int))<(↑b0.length:Int)) then bif decide ((0:Int)≤r13∧r13<(↑b0.length:Int)) then bif decide ((0:Int)≤r13∧r13<(↑b0.length:Int)) then bif decide ((0:Int)≤IntKind.i64.wrap (r13+(1:Int))∧IntKind.i64.wrap (r13+(1:Int))<(↑(b0.set (Int.toNat r13) (b0.getD (IntKind.i64.wrap (r13+(1:Int))).toNat (0:Int))).length:Int)) then some (Sum.inl (((),r10,IntKind.i64.wrap (r13+(1:Int)),()),(b0.set (Int.toNat r13) (b0.getD (IntKind.i64.wrap (r13+(1:Int))).toNat (0:Int))).set (IntKind.i64.wrap (r13+(1:Int))).toNat (b0.getD (Int.toNat r13) (0:Int)),(b1.1,()),())) else none else none else none else none else some (Sum.inr (Sum.inl ((),b0,(b1.1,()),())))
theorem g_sym_9 (f:FT_sym)(x:LD_sym_9.El):codeT (CTp 2) (T_sym f) (drT (CTp 2) (T_sym f)) lpi_sym_9 l_sym_9 (LD_sym_9.enc x) (bodyK (LD_sym_9.lay []) EX_sym_9)=(G_sym_9 f) x.1.2.1 x.1.2.2.1 x.2.1 x.2.2.1:=by kernel_rfl
def R_sym_9 (f:FT_sym):LD_sym_9.El→Option (LA_sym_9.El⊕LB_sym_9.El):=roundsT (fun x=>(G_sym_9 f) x.1.2.1 x.1.2.2.1 x.2.1 x.2.2.1) fuel
theorem r_sym_9 {f:FT_sym}(hf:(E_symx f).Ok CT.P):∀ x y,(R_sym_9 f) x=some y→CL (CTp 2) l_sym_9 (LD_sym_9.enc x) (Sum.elim (fun _=>EX_sym_9.xa) (fun _=>EX_sym_9.xb) y) (Sum.elim EX_sym_9.la.enc EX_sym_9.lb.enc y):=
 rounds_ok (L:=LD_sym_9.lay []) (E:=EX_sym_9) (CTp_ok 2) (T_sym_ok hf) (drT_ok (CTp_ok 2) (T_sym_ok hf)) lpi_sym_9_ok (g_sym_9 f) rfl rfl (fun v h=>by have hh:(.exit 2:AX)=.pan v:=h;cases hh) (fun v h=>by have hh:(.ret:AX)=.pan v:=h;cases hh) fuel
abbrev LD_sym_15:LayD:=⟨220,[(0,.own I 0),(2,.data I),(4,.cloP 309 [1]),(14,.data I),(15,.data I)],[.row 3 I,.var 317 [.data (.list tBox)]],fun s=>[0,1]⟩
abbrev LA_sym_15:LayD:=⟨220,[(0,.own I 0),(2,.data I),(14,.data I)],[.row 3 I,.var 317 [.data (.list tBox)]],fun s=>[0,1]⟩
abbrev LB_sym_15:LayD:=⟨220,[],[],fun _=>[]⟩
def EX_sym_15:Exits 2 LA_sym_15.El LB_sym_15.El:=⟨.exit 4,LA_sym_15.lay [],.ret,LB_sym_15.lay []⟩
def lpi_sym_15 {β:Type}:LpT β:=fun _ _ _=>none
theorem lpi_sym_15_ok {β:Type}:LpTOk (CTp 2) (lpi_sym_15 (β:=β)) (loopsOf l_sym_15):=LpTOk.is [] (by kernel_rfl) (LpTOk.nil)
def G_sym_15 (f:FT_sym)(r2:Ty.El I)(r14:Ty.El I)(r15:Ty.El I)(b0:List (Ty.El I))(b1:Ty.El (.list tBox)×Unit):Option (LD_sym_15.El⊕(LA_sym_15.El⊕LB_sym_15.El)):=bif decide (r14<r15) then bif decide ((0:Int)≤r2∧r2<(↑b0.length:Int)) then bif decide ((0:Int)≤IntKind.i64.wrap ((IntKind.u64.wrap (IntKind.i64.wrap (r14+r15))).fdiv (2:Int))∧IntKind.i64.wrap ((IntKind.u64.wrap (IntKind.i64.wrap (r14+r15))).fdiv (2:Int))<(↑b0.length:Int)) then(F_w287 (b0.getD (Int.toNat r2) (0:Int)) (b0.getD (IntKind.i64.wrap ((IntKind.u64.wrap (IntKind.i64.wrap (r14+r15))).fdiv (2:Int))).toNat (0:Int)) (b1.1,())).bind fun v2=>bif !decide (v2.1.1<(0:Int)) then some (Sum.inl (((),r2,(),IntKind.i64.wrap (IntKind.i64.wrap ((IntKind.u64.wrap (IntKind.i64.wrap (r14+r15))).fdiv (2:Int))+(1:Int)),r15,()),b0,(v2.2.1.1,()),())) else some (Sum.inl (((),r2,(),r14,IntKind.i64.wrap ((IntKind.u64.wrap (IntKind.i64.wrap (r14+r15))).fdiv (2:Int)),()),b0,(v2.2.1.1,()),())) else none else none else some (Sum.inr (Sum.inl (((),r2,r14,()),b0,(b1.1,()),())))
theorem g_sym_15 (f:FT_sym)(x:LD_sym_15.El):codeT (CTp 2) (T_sym f) (drT (CTp 2) (T_sym f)) lpi_sym_15 l_sym_15 (LD_sym_15.enc x) (bodyK (LD_sym_15.lay []) EX_sym_15)=(G_sym_15 f) x.1.2.1 x.1.2.2.2.1 x.1.2.2.2.2.1 x.2.1 x.2.2.1:=by kernel_rfl
def R_sym_15 (f:FT_sym):LD_sym_15.El→Option (LA_sym_15.El⊕LB_sym_15.El):=roundsT (fun x=>(G_sym_15 f) x.1.2.1 x.1.2.2.2.1 x.1.2.2.2.2.1 x.2.1 x.2.2.1) fuel
theorem r_sym_15 {f:FT_sym}(hf:(E_symx f).Ok CT.P):∀ x y,(R_sym_15 f) x=some y→CL (CTp 2) l_sym_15 (LD_sym_15.enc x) (Sum.elim (fun _=>EX_sym_15.xa) (fun _=>EX_sym_15.xb) y) (Sum.elim EX_sym_15.la.enc EX_sym_15.lb.enc y):=
 rounds_ok (L:=LD_sym_15.lay []) (E:=EX_sym_15) (CTp_ok 2) (T_sym_ok hf) (drT_ok (CTp_ok 2) (T_sym_ok hf)) lpi_sym_15_ok (g_sym_15 f) rfl rfl (fun v h=>by have hh:(.exit 4:AX)=.pan v:=h;cases hh) (fun v h=>by have hh:(.ret:AX)=.pan v:=h;cases hh) fuel
abbrev LD_sym_21:LayD:=⟨220,[(0,.own I 0),(14,.data I),(17,.data I)],[.row 3 I,.var 317 [.data (.list tBox)]],fun s=>[0,1]⟩
abbrev LA_sym_21:LayD:=⟨220,[],[.row 3 I,.var 317 [.data (.list tBox)]],fun s=>[0,1]⟩
abbrev LB_sym_21:LayD:=⟨220,[],[],fun _=>[]⟩
def EX_sym_21:Exits 2 LA_sym_21.El LB_sym_21.El:=⟨.exit 6,LA_sym_21.lay [],.ret,LB_sym_21.lay []⟩
def lpi_sym_21 {β:Type}:LpT β:=fun _ _ _=>none
theorem lpi_sym_21_ok {β:Type}:LpTOk (CTp 2) (lpi_sym_21 (β:=β)) (loopsOf l_sym_21):=LpTOk.is [] (by kernel_rfl) (LpTOk.nil)
def G_sym_21 (f:FT_sym)(r14:Ty.El I)(r17:Ty.El I)(b0:List (Ty.El I))(b1:Ty.El (.list tBox)×Unit):Option (LD_sym_21.El⊕(LA_sym_21.El⊕LB_sym_21.El)):=bif decide (r17>r14) then bif decide ((0:Int)≤IntKind.i64.wrap (r17-(1:Int))∧IntKind.i64.wrap (r17-(1:Int))<(↑b0.length:Int)) then bif decide ((0:Int)≤r17∧r17<(↑b0.length:Int)) then bif decide ((0:Int)≤r17∧r17<(↑b0.length:Int)) then bif decide ((0:Int)≤IntKind.i64.wrap (r17-(1:Int))∧IntKind.i64.wrap (r17-(1:Int))<(↑(b0.set (Int.toNat r17) (b0.getD (IntKind.i64.wrap (r17-(1:Int))).toNat (0:Int))).length:Int)) then some (Sum.inl (((),r14,IntKind.i64.wrap (r17-(1:Int)),()),(b0.set (Int.toNat r17) (b0.getD (IntKind.i64.wrap (r17-(1:Int))).toNat (0:Int))).set (IntKind.i64.wrap (r17-(1:Int))).toNat (b0.getD (Int.toNat r17) (0:Int)),(b1.1,()),())) else none else none else none else none else some (Sum.inr (Sum.inl ((),b0,(b1.1,()),())))
theorem g_sym_21 (f:FT_sym)(x:LD_sym_21.El):codeT (CTp 2) (T_sym f) (drT (CTp 2) (T_sym f)) lpi_sym_21 l_sym_21 (LD_sym_21.enc x) (bodyK (LD_sym_21.lay []) EX_sym_21)=(G_sym_21 f) x.1.2.1 x.1.2.2.1 x.2.1 x.2.2.1:=by kernel_rfl
def R_sym_21 (f:FT_sym):LD_sym_21.El→Option (LA_sym_21.El⊕LB_sym_21.El):=roundsT (fun x=>(G_sym_21 f) x.1.2.1 x.1.2.2.1 x.2.1 x.2.2.1) fuel
theorem r_sym_21 {f:FT_sym}(hf:(E_symx f).Ok CT.P):∀ x y,(R_sym_21 f) x=some y→CL (CTp 2) l_sym_21 (LD_sym_21.enc x) (Sum.elim (fun _=>EX_sym_21.xa) (fun _=>EX_sym_21.xb) y) (Sum.elim EX_sym_21.la.enc EX_sym_21.lb.enc y):=
 rounds_ok (L:=LD_sym_21.lay []) (E:=EX_sym_21) (CTp_ok 2) (T_sym_ok hf) (drT_ok (CTp_ok 2) (T_sym_ok hf)) lpi_sym_21_ok (g_sym_21 f) rfl rfl (fun v h=>by have hh:(.exit 6:AX)=.pan v:=h;cases hh) (fun v h=>by have hh:(.ret:AX)=.pan v:=h;cases hh) fuel
abbrev LD_sym_33:LayD:=⟨220,[(0,.own I 0),(1,.data I),(2,.data I),(3,.data I),(4,.cloP 309 [1]),(18,.data I),(19,.data I),(20,.data I),(21,.data I),(22,.data I)],[.row 3 I,.var 317 [.data (.list tBox)]],fun s=>[0,1]⟩
abbrev LA_sym_33:LayD:=⟨220,[(0,.own I 0),(1,.data I),(2,.data I),(3,.data I),(4,.cloP 309 [1]),(18,.data I),(19,.data I),(20,.data I)],[.row 3 I,.var 317 [.data (.list tBox)]],fun s=>[0,1]⟩
abbrev LB_sym_33:LayD:=⟨220,[],[],fun _=>[]⟩
def EX_sym_33:Exits 2 LA_sym_33.El LB_sym_33.El:=⟨.exit 8,LA_sym_33.lay [],.ret,LB_sym_33.lay []⟩
def lpi_sym_33 {β:Type}:LpT β:=fun _ _ _=>none
theorem lpi_sym_33_ok {β:Type}:LpTOk (CTp 2) (lpi_sym_33 (β:=β)) (loopsOf l_sym_33):=LpTOk.is [] (by kernel_rfl) (LpTOk.nil)
def G_sym_33 (f:FT_sym)(r1:Ty.El I)(r2:Ty.El I)(r3:Ty.El I)(r18:Ty.El I)(r19:Ty.El I)(r20:Ty.El I)(r21:Ty.El I)(r22:Ty.El I)(b0:List (Ty.El I))(b1:Ty.El (.list tBox)×Unit):Option (LD_sym_33.El⊕(LA_sym_33.El⊕LB_sym_33.El)):=bif decide (r20<r21) then bif decide ((0:Int)≤IntKind.i64.wrap (r22-IntKind.i64.wrap ((IntKind.u64.wrap (IntKind.i64.wrap (r20+r21))).fdiv (2:Int)))∧IntKind.i64.wrap (r22-IntKind.i64.wrap ((IntKind.u64.wrap (IntKind.i64.wrap (r20+r21))).fdiv (2:Int)))<(↑b0.length:Int)) then bif decide ((0:Int)≤IntKind.i64.wrap ((IntKind.u64.wrap (IntKind.i64.wrap (r20+r21))).fdiv (2:Int))∧IntKind.i64.wrap ((IntKind.u64.wrap (IntKind.i64.wrap (r20+r21))).fdiv (2:Int))<(↑b0.length:Int)) then(F_w287 (b0.getD (IntKind.i64.wrap (r22-IntKind.i64.wrap ((IntKind.u64.wrap (IntKind.i64.wrap (r20+r21))).fdiv (2:Int)))).toNat (0:Int)) (b0.getD (IntKind.i64.wrap ((IntKind.u64.wrap (IntKind.i64.wrap (r20+r21))).fdiv (2:Int))).toNat (0:Int)) (b1.1,())).bind fun v2=>bif !decide (v2.1.1<(0:Int)) then some (Sum.inl (((),r1,r2,r3,(),r18,r19,IntKind.i64.wrap (IntKind.i64.wrap ((IntKind.u64.wrap (IntKind.i64.wrap (r20+r21))).fdiv (2:Int))+(1:Int)),r21,r22,()),b0,(v2.2.1.1,()),())) else some (Sum.inl (((),r1,r2,r3,(),r18,r19,r20,IntKind.i64.wrap ((IntKind.u64.wrap (IntKind.i64.wrap (r20+r21))).fdiv (2:Int)),r22,()),b0,(v2.2.1.1,()),())) else none else none else some (Sum.inr (Sum.inl (((),r1,r2,r3,(),r18,r19,r20,()),b0,(b1.1,()),())))
theorem g_sym_33 (f:FT_sym)(x:LD_sym_33.El):codeT (CTp 2) (T_sym f) (drT (CTp 2) (T_sym f)) lpi_sym_33 l_sym_33 (LD_sym_33.enc x) (bodyK (LD_sym_33.lay []) EX_sym_33)=(G_sym_33 f) x.1.2.1 x.1.2.2.1 x.1.2.2.2.1 x.1.2.2.2.2.2.1 x.1.2.2.2.2.2.2.1 x.1.2.2.2.2.2.2.2.1 x.1.2.2.2.2.2.2.2.2.1 x.1.2.2.2.2.2.2.2.2.2.1 x.2.1 x.2.2.1:=by kernel_rfl
def R_sym_33 (f:FT_sym):LD_sym_33.El→Option (LA_sym_33.El⊕LB_sym_33.El):=roundsT (fun x=>(G_sym_33 f) x.1.2.1 x.1.2.2.1 x.1.2.2.2.1 x.1.2.2.2.2.2.1 x.1.2.2.2.2.2.2.1 x.1.2.2.2.2.2.2.2.1 x.1.2.2.2.2.2.2.2.2.1 x.1.2.2.2.2.2.2.2.2.2.1 x.2.1 x.2.2.1) fuel
theorem r_sym_33 {f:FT_sym}(hf:(E_symx f).Ok CT.P):∀ x y,(R_sym_33 f) x=some y→CL (CTp 2) l_sym_33 (LD_sym_33.enc x) (Sum.elim (fun _=>EX_sym_33.xa) (fun _=>EX_sym_33.xb) y) (Sum.elim EX_sym_33.la.enc EX_sym_33.lb.enc y):=
 rounds_ok (L:=LD_sym_33.lay []) (E:=EX_sym_33) (CTp_ok 2) (T_sym_ok hf) (drT_ok (CTp_ok 2) (T_sym_ok hf)) lpi_sym_33_ok (g_sym_33 f) rfl rfl (fun v h=>by have hh:(.exit 8:AX)=.pan v:=h;cases hh) (fun v h=>by have hh:(.ret:AX)=.pan v:=h;cases hh) fuel
def lp_sym (f:FT_sym){β:Type}:LpT β:=fun k s K=>if Nat.beq k 3 then lpOne (LD_sym_3.lay []) EX_sym_3 (R_sym_3 f) s K else if Nat.beq k 9 then lpOne (LD_sym_9.lay []) EX_sym_9 (R_sym_9 f) s K else if Nat.beq k 15 then lpOne (LD_sym_15.lay []) EX_sym_15 (R_sym_15 f) s K else if Nat.beq k 21 then lpOne (LD_sym_21.lay []) EX_sym_21 (R_sym_21 f) s K else if Nat.beq k 33 then lpOne (LD_sym_33.lay []) EX_sym_33 (R_sym_33 f) s K else none
theorem lp_sym_ok {f:FT_sym}(hf:(E_symx f).Ok CT.P){β:Type}:LpTOk (CTp 2) (lp_sym f (β:=β)) (loopsOf c_sym):=by
 have h:loopsOf c_sym=[(3,l_sym_3),(9,l_sym_9),(15,l_sym_15),(21,l_sym_21),(33,l_sym_33)]:=by kernel_rfl
 rw [h]
 exact LpTOk.cons (fun s K z h=>lpOne_ok (r_sym_3 hf) h) (LpTOk.cons (fun s K z h=>lpOne_ok (r_sym_9 hf) h) (LpTOk.cons (fun s K z h=>lpOne_ok (r_sym_15 hf) h) (LpTOk.cons (fun s K z h=>lpOne_ok (r_sym_21 hf) h) (LpTOk.cons (fun s K z h=>lpOne_ok (r_sym_33 hf) h) (LpTOk.nil)))))
abbrev mid2 (a b:Int):Int:=Go.IntKind.i64.wrap ((Go.IntKind.u64.wrap (Go.IntKind.i64.wrap (a+b))).fdiv (2:Int))
def symC (f:FT_sym)(mid en b:Int)(l:List Int)(bs:Ty.El (.list tBox)):Option OUT_sym.El:=
 bif Decidable.decide (mid<en) then bif Decidable.decide (en<b) then(f mid en b l (bs,())).bind fun v=>Option.some ((),v.snd.fst,(v.snd.snd.fst.fst,()),()) else Option.some ((),l,(bs,()),()) else Option.some ((),l,(bs,()),())
def symB (f:FT_sym)(a st mid en b:Int)(l:List Int)(bs:Ty.El (.list tBox)):Option OUT_sym.El:=
 bif Decidable.decide (a<st) then bif Decidable.decide (st<mid) then(f a st mid l (bs,())).bind fun v=>symC f mid en b v.snd.fst v.snd.snd.fst.fst else symC f mid en b l bs else symC f mid en b l bs
def symA (f:FT_sym)(a m b mid n st:Int)(l:List Int)(bs:Ty.El (.list tBox)):Option OUT_sym.El:=
 bif Decidable.decide (st<m) then
  bif Decidable.decide (m<Go.IntKind.i64.wrap (n-st)) then(F_rtt st m (Go.IntKind.i64.wrap (n-st)) l (bs,())).bind fun v=>symB f a st mid (Go.IntKind.i64.wrap (n-st)) b v.snd.fst v.snd.snd.fst.fst
  else symB f a st mid (Go.IntKind.i64.wrap (n-st)) b l bs
 else symB f a st mid (Go.IntKind.i64.wrap (n-st)) b l bs
def symD (f:FT_sym)(v:LA_sym_33.El⊕LB_sym_33.El):Option OUT_sym.El:=
 Sum.elim (fun w=>symA f w.1.2.1 w.1.2.2.1 w.1.2.2.2.1 w.1.2.2.2.2.2.1 w.1.2.2.2.2.2.2.1 w.1.2.2.2.2.2.2.2.1 w.2.1 w.2.2.1.1) (fun _=>Option.none) v
def F_symb (f:FT_sym)(a1:Ty.El I)(a2:Ty.El I)(a3:Ty.El I)(b0:List (Ty.El I))(b1:Ty.El (.list tBox)×Unit):Option OUT_sym.El:=bif IntKind.i64.wrap (a2-a1)==(1:Int) then((R_sym_3 f) (((),a1,(),a2,a3,()),b0,(b1.1,()),())).bind fun v1=>Sum.elim (fun v2=>((R_sym_9 f) (((),v2.1.2.2.1,v2.1.2.1,()),v2.2.1,(v2.2.2.1.1,()),())).bind fun v3=>Sum.elim (fun v4=>some ((),v4.2.1,(v4.2.2.1.1,()),())) (fun v5=>none) v3) (fun v6=>none) v1 else bif IntKind.i64.wrap (a3-a2)==(1:Int) then((R_sym_15 f) (((),a2,(),a1,a2,()),b0,(b1.1,()),())).bind fun v7=>Sum.elim (fun v8=>((R_sym_21 f) (((),v8.1.2.2.1,v8.1.2.1,()),v8.2.1,(v8.2.2.1.1,()),())).bind fun v9=>Sum.elim (fun v10=>some ((),v10.2.1,(v10.2.2.1.1,()),())) (fun v11=>none) v9) (fun v12=>none) v7 else bif decide (a2>mid2 a1 a3) then((R_sym_33 f) (((),a1,a2,a3,(),mid2 a1 a3,IntKind.i64.wrap (mid2 a1 a3+a2),IntKind.i64.wrap (IntKind.i64.wrap (mid2 a1 a3+a2)-a3),mid2 a1 a3,IntKind.i64.wrap (IntKind.i64.wrap (mid2 a1 a3+a2)-(1:Int)),()),b0,(b1.1,()),())).bind fun v=>symD f v else((R_sym_33 f) (((),a1,a2,a3,(),mid2 a1 a3,IntKind.i64.wrap (mid2 a1 a3+a2),a1,a2,IntKind.i64.wrap (IntKind.i64.wrap (mid2 a1 a3+a2)-(1:Int)),()),b0,(b1.1,()),())).bind fun v=>symD f v
theorem f_sym (f:FT_sym)(x:IN_sym.El):funcX (CTp 2) (T_sym f) IN_sym OUT_sym [] (drT (CTp 2) (T_sym f)) (lp_sym f) Tryz.f332 c_sym x=F_symb f x.1.2.1 x.1.2.2.1 x.1.2.2.2.1 x.2.1 x.2.2.1:=by kernel_rfl
def F_symn:Nat→FT_sym
 | 0,_,_,_,_,_=>none
 | n+1,a1,a2,a3,a4,a5=>F_symb (F_symn n) a1 a2 a3 a4 a5
def F_sym:FT_sym:=F_symn 60
theorem e_symn:∀ n,(E_symx (F_symn n)).Ok CT.P
 | 0=>Ent.mkGen_ok (fun x y h=>by cases h)
 | n+1=>Ent.ofGen (C:=(CTp 2)) (steps:=[.nilReg 0 3 I,.rowReg 0 3 I]) (osteps:=[]) (CTp_ok 2) (T_sym_ok (e_symn n)) hf_sym hb_sym (lp_sym_ok (e_symn n)) (f_sym (F_symn n))
def E_sym:Ent:=E_symx F_sym
theorem e_sym:E_sym.Ok CT.P:=e_symn 60
def c_stb:Code:=Tryz.f317.body.getD .skip
abbrev IN_stb:LayD:=⟨3,[(0,.own I 0),(1,.data I),(2,.cloP 309 [1])],[.row 3 I,.var 317 [.data (.list tBox)]],fun s=>[slotR s 0,slotF s 2]⟩
abbrev OUT_stb:LayD:=⟨0,[],[.row 3 I,.var 317 [.data (.list tBox)]],fun _=>[0,1]⟩
def T_stb:Tb:=mkTb tyT mpT [E_w325,E_sym]
theorem T_stb_ok:T_stb.Ok CT.P:=mkTb_ok (⟨e_w325,e_sym,trivial⟩)
def l_stb_7:Code:=atLoop c_stb 7
def l_stb_2:Code:=atLoop c_stb 2
def l_stb_9:Code:=atLoop l_stb_7 9
abbrev LD_stb_9:LayD:=⟨63,[(0,.own I 0),(1,.data I),(2,.cloP 309 [1]),(6,.data I),(7,.data I),(8,.data I)],[.row 3 I,.var 317 [.data (.list tBox)]],fun s=>[0,1]⟩
abbrev LA_stb_9:LayD:=⟨63,[(0,.own I 0),(1,.data I),(2,.cloP 309 [1]),(6,.data I),(7,.data I)],[.row 3 I,.var 317 [.data (.list tBox)]],fun s=>[0,1]⟩
abbrev LB_stb_9:LayD:=⟨63,[],[],fun _=>[]⟩
def EX_stb_9:Exits 2 LA_stb_9.El LB_stb_9.El:=⟨.exit 4,LA_stb_9.lay [],.ret,LB_stb_9.lay []⟩
def G_stb_9 (r1:Ty.El I)(r6:Ty.El I)(r7:Ty.El I)(r8:Ty.El I)(b0:List (Ty.El I))(b1:Ty.El (.list tBox)×Unit):Option (LD_stb_9.El⊕(LA_stb_9.El⊕LB_stb_9.El)):=bif decide (r8≤r1) then(F_sym r7 (IntKind.i64.wrap (r7+r6)) r8 b0 (b1.1,())).bind fun v2=>some (Sum.inl (((),r1,(),r6,r8,IntKind.i64.wrap (r8+IntKind.i64.wrap ((2:Int)*r6)),()),v2.2.1,(v2.2.2.1.1,()),())) else some (Sum.inr (Sum.inl (((),r1,(),r6,r7,()),b0,(b1.1,()),())))
theorem g_stb_9 (x:LD_stb_9.El):codeT (CTp 2) T_stb (drT (CTp 2) T_stb) lp0 l_stb_9 (LD_stb_9.enc x) (bodyK (LD_stb_9.lay []) EX_stb_9)=G_stb_9 x.1.2.1 x.1.2.2.2.1 x.1.2.2.2.2.1 x.1.2.2.2.2.2.1 x.2.1 x.2.2.1:=by kernel_rfl
def R_stb_9:LD_stb_9.El→Option (LA_stb_9.El⊕LB_stb_9.El):=roundsT (fun x=>G_stb_9 x.1.2.1 x.1.2.2.2.1 x.1.2.2.2.2.1 x.1.2.2.2.2.2.1 x.2.1 x.2.2.1) fuel
abbrev LD_stb_2:LayD:=⟨63,[(0,.own I 0),(1,.data I),(2,.cloP 309 [1]),(6,.data I),(7,.data I),(8,.data I)],[.row 3 I,.var 317 [.data (.list tBox)]],fun s=>[0,1]⟩
abbrev LA_stb_2:LayD:=⟨63,[(0,.own I 0),(1,.data I),(2,.cloP 309 [1]),(6,.data I),(7,.data I)],[.row 3 I,.var 317 [.data (.list tBox)]],fun s=>[0,1]⟩
abbrev LB_stb_2:LayD:=⟨63,[],[],fun _=>[]⟩
def EX_stb_2:Exits 2 LA_stb_2.El LB_stb_2.El:=⟨.exit 0,LA_stb_2.lay [],.ret,LB_stb_2.lay []⟩
def G_stb_2 (r1:Ty.El I)(r6:Ty.El I)(r7:Ty.El I)(r8:Ty.El I)(b0:List (Ty.El I))(b1:Ty.El (.list tBox)×Unit):Option (LD_stb_2.El⊕(LA_stb_2.El⊕LB_stb_2.El)):=bif decide (r8≤r1) then(F_w325 r7 r8 b0 (b1.1,())).bind fun v2=>some (Sum.inl (((),r1,(),r6,r8,IntKind.i64.wrap (r8+r6),()),v2.2.1,(v2.2.2.1.1,()),())) else some (Sum.inr (Sum.inl (((),r1,(),r6,r7,()),b0,(b1.1,()),())))
theorem g_stb_2 (x:LD_stb_2.El):codeT (CTp 2) T_stb (drT (CTp 2) T_stb) lp0 l_stb_2 (LD_stb_2.enc x) (bodyK (LD_stb_2.lay []) EX_stb_2)=G_stb_2 x.1.2.1 x.1.2.2.2.1 x.1.2.2.2.2.1 x.1.2.2.2.2.2.1 x.2.1 x.2.2.1:=by kernel_rfl
def R_stb_2:LD_stb_2.El→Option (LA_stb_2.El⊕LB_stb_2.El):=roundsT (fun x=>G_stb_2 x.1.2.1 x.1.2.2.2.1 x.1.2.2.2.2.1 x.1.2.2.2.2.2.1 x.2.1 x.2.2.1) fuel
abbrev LD_stb_7:LayD:=⟨63,[(0,.own I 0),(1,.data I),(2,.cloP 309 [1]),(6,.data I)],[.row 3 I,.var 317 [.data (.list tBox)]],fun s=>[0,1]⟩
abbrev LA_stb_7:LayD:=⟨63,[],[.row 3 I,.var 317 [.data (.list tBox)]],fun s=>[0,1]⟩
abbrev LB_stb_7:LayD:=⟨63,[],[],fun _=>[]⟩
def EX_stb_7:Exits 2 LA_stb_7.El LB_stb_7.El:=⟨.exit 2,LA_stb_7.lay [],.ret,LB_stb_7.lay []⟩
def lpi_stb_7 {β:Type}:LpT β:=fun k s K=>if Nat.beq k 9 then lpOne (LD_stb_9.lay []) EX_stb_9 R_stb_9 s K else none
theorem lpi_stb_7_ok {β:Type}:LpTOk (CTp 2) (lpi_stb_7 (β:=β)) (loopsOf l_stb_7):=LpTOk.is [(9,l_stb_9)] (by kernel_rfl) (LpTOk.cons (fun s K z h=>lpG (CTp_ok 2) T_stb_ok (lp0_ok (by kernel_rfl)) (L:=LD_stb_9.lay []) (E:=EX_stb_9) g_stb_9 rfl rfl rfl rfl h) (LpTOk.nil))
def G_stb_7 (r1:Ty.El I)(r6:Ty.El I)(b0:List (Ty.El I))(b1:Ty.El (.list tBox)×Unit):Option (LD_stb_7.El⊕(LA_stb_7.El⊕LB_stb_7.El)):=bif decide (r6<r1) then(R_stb_9 (((),r1,(),r6,(0:Int),IntKind.i64.wrap ((2:Int)*r6),()),b0,(b1.1,()),())).bind fun v1=>Sum.elim (fun v2=>bif decide (IntKind.i64.wrap (v2.1.2.2.2.2.1+v2.1.2.2.2.1)<v2.1.2.1) then(F_sym v2.1.2.2.2.2.1 (IntKind.i64.wrap (v2.1.2.2.2.2.1+v2.1.2.2.2.1)) v2.1.2.1 v2.2.1 (v2.2.2.1.1,())).bind fun v4=>some (Sum.inl (((),v2.1.2.1,(),IntKind.i64.wrap (v2.1.2.2.2.1*(2:Int)),()),v4.2.1,(v4.2.2.1.1,()),())) else some (Sum.inl (((),v2.1.2.1,(),IntKind.i64.wrap (v2.1.2.2.2.1*(2:Int)),()),v2.2.1,(v2.2.2.1.1,()),()))) (fun v9=>none) v1 else some (Sum.inr (Sum.inl ((),b0,(b1.1,()),())))
theorem g_stb_7 (x:LD_stb_7.El):codeT (CTp 2) T_stb (drT (CTp 2) T_stb) lpi_stb_7 l_stb_7 (LD_stb_7.enc x) (bodyK (LD_stb_7.lay []) EX_stb_7)=G_stb_7 x.1.2.1 x.1.2.2.2.1 x.2.1 x.2.2.1:=by kernel_rfl
def R_stb_7:LD_stb_7.El→Option (LA_stb_7.El⊕LB_stb_7.El):=roundsT (fun x=>G_stb_7 x.1.2.1 x.1.2.2.2.1 x.2.1 x.2.2.1) fuel
def lp_stb {β:Type}:LpT β:=fun k s K=>if Nat.beq k 2 then lpOne (LD_stb_2.lay []) EX_stb_2 R_stb_2 s K else if Nat.beq k 7 then lpOne (LD_stb_7.lay []) EX_stb_7 R_stb_7 s K else none
theorem lp_stb_ok {β:Type}:LpTOk (CTp 2) (lp_stb (β:=β)) (loopsOf c_stb):=LpTOk.is [(2,l_stb_2),(7,l_stb_7)] (by kernel_rfl) (LpTOk.cons (fun s K z h=>lpG (CTp_ok 2) T_stb_ok (lp0_ok (by kernel_rfl)) (L:=LD_stb_2.lay []) (E:=EX_stb_2) g_stb_2 rfl rfl rfl rfl h) (LpTOk.cons (fun s K z h=>lpG (CTp_ok 2) T_stb_ok lpi_stb_7_ok (L:=LD_stb_7.lay []) (E:=EX_stb_7) g_stb_7 rfl rfl rfl rfl h) (LpTOk.nil)))
def F_stb (a1:Ty.El I)(b0:List (Ty.El I))(b1:Ty.El (.list tBox)×Unit):Option OUT_stb.El:=(R_stb_2 (((),a1,(),(20:Int),(0:Int),(20:Int),()),b0,(b1.1,()),())).bind fun v1=>Sum.elim (fun v2=>(F_w325 v2.1.2.2.2.2.1 v2.1.2.1 v2.2.1 (v2.2.2.1.1,())).bind fun v4=>(R_stb_7 (((),v2.1.2.1,(),v2.1.2.2.2.1,()),v4.2.1,(v4.2.2.1.1,()),())).bind fun v9=>Sum.elim (fun v10=>some ((),v10.2.1,(v10.2.2.1.1,()),())) (fun v11=>none) v9) (fun v12=>none) v1
theorem f_stb (x:IN_stb.El):funcX (CTp 2) T_stb IN_stb OUT_stb [] (drT (CTp 2) T_stb) lp_stb Tryz.f317 c_stb x=F_stb x.1.2.1 x.2.1 x.2.2.1:=by kernel_rfl
def E_stb:Ent:=.mkGen 317 [309] ⟨2,[.nilReg 0 3 I,.rowReg 0 3 I],IN_stb,OUT_stb,fun x=>F_stb x.1.2.1 x.2.1 x.2.2.1⟩
theorem e_stb:E_stb.Ok CT.P:=Ent.ofGen (C:=(CTp 2)) (steps:=[.nilReg 0 3 I,.rowReg 0 3 I]) (osteps:=[]) (CTp_ok 2) T_stb_ok (by kernel_rfl) (by kernel_rfl) lp_stb_ok f_stb
abbrev IN_w286:LayD:=⟨2,[(0,.own I 0),(1,.cloP 309 [1])],[.row 3 I,.var 317 [.data (.list tBox)]],fun s=>[slotR s 0,slotF s 1]⟩
abbrev OUT_w286:LayD:=⟨0,[],[.row 3 I,.var 317 [.data (.list tBox)]],fun _=>[0,1]⟩
def F_w286 (b0:List (Ty.El I))(b1:Ty.El (.list tBox)×Unit):Option OUT_w286.El:=(F_stb (↑b0.length:Int) b0 (b1.1,())).bind fun v2=>some ((),v2.2.1,(v2.2.2.1.1,()),())
def E_w286:Ent:=.mkGen 308 [309] ⟨2,[.nilReg 0 3 I,.rowReg 0 3 I],IN_w286,OUT_w286,fun x=>F_w286 x.2.1 x.2.2.1⟩
theorem e_w286:E_w286.Ok CT.P:=gen0 (C:=(CTp 2)) (CTp_ok 2) (tb (l:=[E_stb]) ⟨e_stb,trivial⟩) [] Tryz.f308 (by kernel_rfl) (by kernel_rfl) (by kernel_rfl) fun x=>by kernel_rfl
def c_w233:Code:=Tryz.f294.body.getD .skip
def T_w233:Tb:=mkTb tyT mpT [E_w286]
theorem T_w233_ok:T_w233.Ok CT.P:=mkTb_ok (⟨e_w286,trivial⟩)
def l_w233_3:Code:=atLoop c_w233 3
abbrev LD_w233_3:LayD:=⟨19,[(1,.ptr 0),(3,.own I 1),(6,.data I),(7,.data I)],[.var 317 [.data (.list tBox)],.row 3 I],fun s=>[slotR s 1,slotR s 3]⟩
abbrev LA_w233_3:LayD:=⟨19,[(1,.ptr 0),(3,.own I 1)],[.var 317 [.data (.list tBox)],.row 3 I],fun s=>[slotR s 1,slotR s 3]⟩
abbrev LB_w233_3:LayD:=⟨19,[],[],fun _=>[]⟩
def EX_w233_3:Exits 0 LA_w233_3.El LB_w233_3.El:=⟨.exit 0,LA_w233_3.lay [.nilReg 3 3 I],.ret,LB_w233_3.lay []⟩
def G_w233_3 (r6:Ty.El I)(r7:Ty.El I)(b0:Ty.El (.list tBox)×Unit)(b1:List (Ty.El I)):Option (LD_w233_3.El⊕(LA_w233_3.El⊕LB_w233_3.El)):=bif decide (r7<r6) then bif((b1.length+[r7].length)*(8:Nat)).ble (70368744177664:Nat) then some (Sum.inl (((),(),r6,IntKind.i64.wrap (r7+(1:Int)),()),(b0.1,()),b1++[r7],())) else none else some (Sum.inr (Sum.inl (((),(),()),(b0.1,()),b1,())))
theorem g_w233_3 (x:LD_w233_3.El):codeT CT T_w233 (drT CT T_w233) lp0 l_w233_3 (LD_w233_3.enc x) (bodyK (LD_w233_3.lay [.nilReg 3 3 I]) EX_w233_3)=G_w233_3 x.1.2.2.1 x.1.2.2.2.1 x.2.1 x.2.2.1:=by kernel_rfl
def R_w233_3:LD_w233_3.El→Option (LA_w233_3.El⊕LB_w233_3.El):=roundsT (fun x=>G_w233_3 x.1.2.2.1 x.1.2.2.2.1 x.2.1 x.2.2.1) fuel
def lp_w233 {β:Type}:LpT β:=fun k s K=>if Nat.beq k 3 then lpOne (LD_w233_3.lay [.nilReg 3 3 I]) EX_w233_3 R_w233_3 s K else none
theorem lp_w233_ok {β:Type}:LpTOk CT (lp_w233 (β:=β)) (loopsOf c_w233):=LpTOk.is [(3,l_w233_3)] (by kernel_rfl) (LpTOk.cons (fun s K z h=>lpG CT_ok T_w233_ok (lp0_ok (by kernel_rfl)) (L:=LD_w233_3.lay [.nilReg 3 3 I]) (E:=EX_w233_3) g_w233_3 rfl rfl rfl rfl h) (LpTOk.nil))
def F_w233 (a1:Ty.El (.list tBox)):Option (Els [.list I]):=(R_w233_3 (((),(),(↑(List.length a1):Int),(0:Int),()),(a1,()),[],())).bind fun v1=>Sum.elim (fun v2=>(F_w286 v2.2.2.1 (v2.2.1.1,())).bind fun v4=>some (v4.2.1,())) (fun v7=>none) v1
theorem f_w233 (x:Ps [.ty (.list tBox)]):funcT CT T_w233 [.list I] (drT CT T_w233) lp_w233 Tryz.f294 c_w233 (encPs [.ty (.list tBox)] x)=F_w233 x.1:=by kernel_rfl
def E_w233:Ent:=.fn 294 [] ⟨[.ty (.list tBox)],[.list I],fun x=>F_w233 x.1,false⟩
theorem e_w233:E_w233.Ok CT.P:=Ent.ofFn CT_ok T_w233_ok (by kernel_rfl) (by kernel_rfl) lp_w233_ok f_w233
def c_w165:Code:=Tryz.f279.body.getD .skip
def T_w165:Tb:=mkTb tyT mpT [E_w233,E_w234,E_w235]
theorem T_w165_ok:T_w165.Ok CT.P:=mkTb_ok (⟨e_w233,e_w234,e_w235,trivial⟩)
def l_w165_4:Code:=atLoop c_w165 4
def l_w165_7:Code:=atLoop l_w165_4 7
abbrev LD_w165_7:LayD:=⟨51,[(0,.data (.list tBox)),(3,.own tPair 0),(4,.data (.list I)),(6,.data I),(11,.data (.list I)),(12,.data I),(13,.data I),(21,.data (.list I)),(22,.data I),(23,.data I)],[.row 179 tPair],fun s=>[slotR s 3]⟩
abbrev LA_w165_7:LayD:=⟨51,[(0,.data (.list tBox)),(3,.own tPair 0),(4,.data (.list I)),(11,.data (.list I)),(12,.data I),(13,.data I)],[.row 179 tPair],fun s=>[slotR s 3]⟩
abbrev LB_w165_7:LayD:=⟨51,[],[],fun _=>[]⟩
def EX_w165_7:Exits 0 LA_w165_7.El LB_w165_7.El:=⟨.exit 2,LA_w165_7.lay [.nilReg 3 179 tPair],.ret,LB_w165_7.lay []⟩
def G_w165_7 (r0:Ty.El (.list tBox))(r4:Ty.El (.list I))(r6:Ty.El I)(r11:Ty.El (.list I))(r12:Ty.El I)(r13:Ty.El I)(r21:Ty.El (.list I))(r22:Ty.El I)(r23:Ty.El I)(b0:List (Ty.El tPair)):Option (LD_w165_7.El⊕(LA_w165_7.El⊕LB_w165_7.El)):=bif decide (r23<r22) then bif decide ((0:Int)≤r23∧r23<(↑(List.length r21):Int)) then bif decide ((0:Int)≤r6∧r6<(↑(List.length r0):Int)) then bif decide ((0:Int)≤List.getD r21 (Int.toNat r23) (0:Int)∧List.getD r21 (Int.toNat r23) (0:Int)<(↑(List.length r0):Int)) then(F_w234 (List.getD r0 (Int.toNat r6) tBox.dflt) (List.getD r0 (Int.toNat (List.getD r21 (Int.toNat r23) (0:Int))) tBox.dflt)).bind fun v2=>bif v2.1 then bif((b0.length+[(if List.getD r21 (Int.toNat r23) (0:Int)<r6 then List.getD r21 (Int.toNat r23) (0:Int) else r6,if List.getD r21 (Int.toNat r23) (0:Int)>r6 then List.getD r21 (Int.toNat r23) (0:Int) else r6)].length)*(16:Nat)).ble (70368744177664:Nat) then some (Sum.inl ((r0,(),r4,r6,r11,r12,r13,r21,r22,IntKind.i64.wrap (r23+(1:Int)),()),b0++[(if List.getD r21 (Int.toNat r23) (0:Int)<r6 then List.getD r21 (Int.toNat r23) (0:Int) else r6,if List.getD r21 (Int.toNat r23) (0:Int)>r6 then List.getD r21 (Int.toNat r23) (0:Int) else r6)],())) else none else some (Sum.inl ((r0,(),r4,r6,r11,r12,r13,r21,r22,IntKind.i64.wrap (r23+(1:Int)),()),b0,())) else none else none else none else some (Sum.inr (Sum.inl ((r0,(),r4,r11,r12,r13,()),b0,())))
theorem g_w165_7 (x:LD_w165_7.El):codeT CT T_w165 (drT CT T_w165) lp0 l_w165_7 (LD_w165_7.enc x) (bodyK (LD_w165_7.lay [.nilReg 3 179 tPair]) EX_w165_7)=G_w165_7 x.1.1 x.1.2.2.1 x.1.2.2.2.1 x.1.2.2.2.2.1 x.1.2.2.2.2.2.1 x.1.2.2.2.2.2.2.1 x.1.2.2.2.2.2.2.2.1 x.1.2.2.2.2.2.2.2.2.1 x.1.2.2.2.2.2.2.2.2.2.1 x.2.1:=by kernel_rfl
def R_w165_7:LD_w165_7.El→Option (LA_w165_7.El⊕LB_w165_7.El):=roundsT (fun x=>G_w165_7 x.1.1 x.1.2.2.1 x.1.2.2.2.1 x.1.2.2.2.2.1 x.1.2.2.2.2.2.1 x.1.2.2.2.2.2.2.1 x.1.2.2.2.2.2.2.2.1 x.1.2.2.2.2.2.2.2.2.1 x.1.2.2.2.2.2.2.2.2.2.1 x.2.1) fuel
abbrev LD_w165_4:LayD:=⟨51,[(0,.data (.list tBox)),(3,.own tPair 0),(4,.data (.list I)),(11,.data (.list I)),(12,.data I),(13,.data I)],[.row 179 tPair],fun s=>[slotR s 3]⟩
abbrev LA_w165_4:LayD:=⟨51,[(3,.own tPair 0)],[.row 179 tPair],fun s=>[slotR s 3]⟩
abbrev LB_w165_4:LayD:=⟨51,[],[],fun _=>[]⟩
def EX_w165_4:Exits 0 LA_w165_4.El LB_w165_4.El:=⟨.exit 0,LA_w165_4.lay [.nilReg 3 179 tPair],.ret,LB_w165_4.lay []⟩
def lpi_w165_4 {β:Type}:LpT β:=fun k s K=>if Nat.beq k 7 then lpOne (LD_w165_7.lay [.nilReg 3 179 tPair]) EX_w165_7 R_w165_7 s K else none
theorem lpi_w165_4_ok {β:Type}:LpTOk CT (lpi_w165_4 (β:=β)) (loopsOf l_w165_4):=LpTOk.is [(7,l_w165_7)] (by kernel_rfl) (LpTOk.cons (fun s K z h=>lpG CT_ok T_w165_ok (lp0_ok (by kernel_rfl)) (L:=LD_w165_7.lay [.nilReg 3 179 tPair]) (E:=EX_w165_7) g_w165_7 rfl rfl rfl rfl h) (LpTOk.nil))
def G_w165_4 (r0:Ty.El (.list tBox))(r4:Ty.El (.list I))(r11:Ty.El (.list I))(r12:Ty.El I)(r13:Ty.El I)(b0:List (Ty.El tPair)):Option (LD_w165_4.El⊕(LA_w165_4.El⊕LB_w165_4.El)):=bif decide (r13<r12) then bif decide ((0:Int)≤r13∧r13<(↑(List.length r11):Int)) then bif decide ((0:Int)≤IntKind.i64.wrap (r13+(1:Int))∧IntKind.i64.wrap (r13+(1:Int))≤(↑(List.length r4):Int)) then(R_w165_7 ((r0,(),r4,List.getD r11 (Int.toNat r13) (0:Int),r11,r12,r13,List.take (List.length r4-(IntKind.i64.wrap (r13+(1:Int))).toNat) (List.drop (IntKind.i64.wrap (r13+(1:Int))).toNat r4),(↑(List.take (List.length r4-(IntKind.i64.wrap (r13+(1:Int))).toNat) (List.drop (IntKind.i64.wrap (r13+(1:Int))).toNat r4)).length:Int),(0:Int),()),b0,())).bind fun v1=>Sum.elim (fun v2=>some (Sum.inl ((v2.1.1,(),v2.1.2.2.1,v2.1.2.2.2.1,v2.1.2.2.2.2.1,IntKind.i64.wrap (v2.1.2.2.2.2.2.1+(1:Int)),()),v2.2.1,()))) (fun v3=>some (Sum.inr (Sum.inr ((),())))) v1 else none else none else some (Sum.inr (Sum.inl (((),()),b0,())))
theorem g_w165_4 (x:LD_w165_4.El):codeT CT T_w165 (drT CT T_w165) lpi_w165_4 l_w165_4 (LD_w165_4.enc x) (bodyK (LD_w165_4.lay [.nilReg 3 179 tPair]) EX_w165_4)=G_w165_4 x.1.1 x.1.2.2.1 x.1.2.2.2.1 x.1.2.2.2.2.1 x.1.2.2.2.2.2.1 x.2.1:=by kernel_rfl
def R_w165_4:LD_w165_4.El→Option (LA_w165_4.El⊕LB_w165_4.El):=roundsT (fun x=>G_w165_4 x.1.1 x.1.2.2.1 x.1.2.2.2.1 x.1.2.2.2.2.1 x.1.2.2.2.2.2.1 x.2.1) fuel
def lp_w165 {β:Type}:LpT β:=fun k s K=>if Nat.beq k 4 then lpOne (LD_w165_4.lay [.nilReg 3 179 tPair]) EX_w165_4 R_w165_4 s K else none
theorem lp_w165_ok {β:Type}:LpTOk CT (lp_w165 (β:=β)) (loopsOf c_w165):=LpTOk.is [(4,l_w165_4)] (by kernel_rfl) (LpTOk.cons (fun s K z h=>lpG CT_ok T_w165_ok lpi_w165_4_ok (L:=LD_w165_4.lay [.nilReg 3 179 tPair]) (E:=EX_w165_4) g_w165_4 rfl rfl rfl rfl h) (LpTOk.nil))
def F_w165 (a1:Ty.El (.list tBox)):Option (Els [.list tPair]):=(F_w233 a1).bind fun v2=>(R_w165_4 ((a1,(),v2.1,v2.1,(↑(List.length v2.1):Int),(0:Int),()),[],())).bind fun v3=>Sum.elim (fun v4=>(F_w235 v4.2.1).bind fun v6=>some (v6.2.1,())) (fun v9=>none) v3
theorem f_w165 (x:Ps [.ty (.list tBox)]):funcT CT T_w165 [.list tPair] (drT CT T_w165) lp_w165 Tryz.f279 c_w165 (encPs [.ty (.list tBox)] x)=F_w165 x.1:=by kernel_rfl
def E_w165:Ent:=.fn 279 [] ⟨[.ty (.list tBox)],[.list tPair],fun x=>F_w165 x.1,false⟩
theorem e_w165:E_w165.Ok CT.P:=Ent.ofFn CT_ok T_w165_ok (by kernel_rfl) (by kernel_rfl) lp_w165_ok f_w165
end Go.DI.S
end
