import Derived.Test.YtbjldjihpekhaaaGreatAe
import Derived.Test.YtbjldjihpekhaaaGreatTa
/- A step of a world, and many: told by functions on data. No conditions. -/
set_option linter.unusedSimpArgs false
set_option linter.unusedVariables false
set_option maxRecDepth 100000
set_option maxHeartbeats 0
noncomputable section
namespace Go.DI.S
open Go.Proofs
theorem try_264 (caps:Array Value)(w:World)(Q:World→Prop)
  (hc:Calls Tryz.prog 264 caps (w.alloc (.cells #[.int .i64 0] 56)) fun e w'=>e=.returned (.tuple #[])∧Q w'∧w.heap.size<w'.heap.size∧w'.cell? ⟨w.heap.size,0,none⟩=some (.int .i64 0)∧w'.frozen? ⟨w.heap.size,0,none⟩=false) :
  Calls Tryz.prog 178 #[.func (.func 264) #[] caps] w fun e w'=>e=.returned (.int .i64 0)∧∃ w2 w3,Q w2∧More (w2.setCell ⟨w.heap.size,0,none⟩ (.int .i64 0)) w3∧w'=w3.setCell ⟨w.heap.size,0,none⟩ (.int .i64 0):=by
 have hmf:∀ (fn:Fn) (first cap:Array Value) (w:World),(Instr.makeFunc fn first cap).run Tryz.prog w=.ok (.func fn first cap) w:=fun _ _ _ _=>rfl
 have hnil:∀ (f:Fn) (a b:Array Value) (w:World),(binOp BinOp.eql 1 (.func f a b) .nilFunc).run Tryz.prog w=.ok (.bool false) w:=nilq
 go_enter_defers Tryz.func178,Tryz.ntmps178
 go_wp2_with (first | (go_at_call 264;refine hc.mono ?_;rintro e w' ⟨rfl,hQ,h0,h1,h2⟩))
 have e1:(w'.setCell ⟨w.heap.size,0,none⟩ (.int .i64 0)).cell? ⟨w.heap.size,0,none⟩=some (.int .i64 0):=by
  simp [go_sem,h1]
 have e2:(w'.setCell ⟨w.heap.size,0,none⟩ (.int .i64 0)).frozen? ⟨w.heap.size,0,none⟩=false:=by
  simp [go_sem,h2]
 have e0:w.heap.size<(w'.setCell ⟨w.heap.size,0,none⟩ (.int .i64 0)).heap.size:=by simpa [World.setCell] using h0
 refine leaves_cons (f:=225) (args:=#[.pointer (some ⟨w.heap.size,0,none⟩)]) (by simp) (by simp [go_sem]) ?_
 refine(idle_121 ⟨w.heap.size,0,none⟩ _ 0 e0 e1 e2).mono ?_
 rintro e u' w'' ⟨rfl,rfl,w3,hm,rfl⟩
 have e4:w3.cell? ⟨w.heap.size,0,none⟩=some (.int .i64 0):=by rw [hm.cell e0,e1]
 have e3:(w3.setCell ⟨w.heap.size,0,none⟩ (.int .i64 0)).cell? ⟨w.heap.size,0,none⟩=some (.int .i64 0):=by
  simp [go_sem,e4]
 simp [Leaves,settle,results,Tryz.results178,go_sem,e3]
 exact⟨_,hQ,_,hm,rfl⟩
theorem try_264p (caps:Array Value)(w:World)(n:Int)(Q:World→Prop)
  (hc:Calls Tryz.prog 264 caps (w.alloc (.cells #[.int .i64 0] 56)) fun e w'=>(∃ v,e=.panicked [{ v:=v,recovered:=false }]∧∀ (w:World) (R:Nat→Prop) (ρ:Nm),VRep w R ρ (faultV 239 n) v)∧Q w'∧w.heap.size<w'.heap.size∧w'.cell? ⟨w.heap.size,0,none⟩=some (.int .i64 0)∧w'.frozen? ⟨w.heap.size,0,none⟩=false) :
  Calls Tryz.prog 178 #[.func (.func 264) #[] caps] w fun e w'=>e=.returned (.int .i64 n)∧∃ w2 w3,Q w2∧More w2 w3∧w'=w3.setCell ⟨w.heap.size,0,none⟩ (.int .i64 n):=by
 have hmf:∀ (fn:Fn) (first cap:Array Value) (w:World),(Instr.makeFunc fn first cap).run Tryz.prog w=.ok (.func fn first cap) w:=fun _ _ _ _=>rfl
 have hnil:∀ (f:Fn) (a b:Array Value) (w:World),(binOp BinOp.eql 1 (.func f a b) .nilFunc).run Tryz.prog w=.ok (.bool false) w:=nilq
 go_enter_defers Tryz.func178,Tryz.ntmps178
 go_wp2_with (first | (go_at_call 264;refine hc.mono ?_;rintro e w' ⟨⟨v,rfl,hv⟩,hQ,h0,h1,h2⟩))
 refine leaves_cons (f:=225) (args:=#[.pointer (some ⟨w.heap.size,0,none⟩)]) (by simp) (by simp [go_sem]) ?_
 refine(raise_121 ⟨w.heap.size,0,none⟩ w' 0 n v hv h0 h1 h2).mono ?_
 rintro e u' w'' ⟨rfl,rfl,w3,hm,rfl⟩
 have e4:w3.cell? ⟨w.heap.size,0,none⟩=some (.int .i64 0):=by rw [hm.cell h0,h1]
 have e3:(w3.setCell ⟨w.heap.size,0,none⟩ (.int .i64 n)).cell? ⟨w.heap.size,0,none⟩=some (.int .i64 n):=by
  simp [go_sem,e4]
 simp [Leaves,settle,results,Tryz.results178,go_sem,e3]
 exact⟨_,hQ,_,hm,rfl⟩
theorem tryE_264 {n:Nat}{is:List Nat}{B:List Bl}{regs:List (Nat×It)}{sg1 sg2 sg3 sg4:AS→List Nat}{pin:Nat}{st:List Stp}{F:(LayD.mk n regs B sg1).El→Option ((LayD.mk 0 [] B sg2).El⊕Int)}{F2:(LayD.mk 1 [(0,.cloP 264 is)] B sg3).El→Option ((LayD.mk 1 [(0,.data I)] B sg4).El⊕Int)}
  (hregs:∀ (x:RegsEl regs) (b:BlksEl B),((LayD.mk n regs B sg1).enc (x,b)).r=is.map fun i=>.ptr i 0)
  (x0:RegsEl regs) (hF:∀ x y,F2 x=some (.inl y)→F (x0,x.2)=some (.inl ((),y.2))∧y.1=(0,())) (hFp:∀ x e,F2 x=some (.inr e)→F (x0,x.2)=some (.inr e))
  (he:(GenPE.mk 239 pin st ⟨n,regs,B,sg1⟩ ⟨0,[],B,sg2⟩ F).Ok CT.P 264) {st2:List Stp}:(TryE.mk pin st2 ⟨1,[(0,.cloP 264 is)],B,sg3⟩ ⟨1,[(0,.data I)],B,sg4⟩ F2).Ok CT.P 178:=by
 have start:∀ (x:(LayD.mk 1 [(0,.cloP 264 is)] B sg3).El) (R:Nat→Prop) (ρ:Nm) (w:World) (vs:Array Value),Rel R ρ (encB B x.2) w→VReps w R ρ [.func 264 [] (is.map fun i=>.ptr i 0)] vs.toList →
   ∃ vc:Array Value,vs=#[.func (.func 264) #[] vc]∧Rel R ρ (encB B x.2) (w.alloc (.cells #[.int .i64 0] 56))∧VReps (w.alloc (.cells #[.int .i64 0] 56)) R ρ (is.map fun i=>.ptr i 0) vc.toList:=by
  intro x R ρ w vs hr hvs
  obtain⟨u0,us,hu,h1,h2⟩:=hvs.cons_inv
  obtain rfl:=h2.nil_inv
  have hv:vs=#[u0]:=Array.toList_inj.1 (by simpa using hu)
  subst hv
  cases h1 with
  | func vf vc k1 k2 k3 k4=>
  have hvf:vf=#[]:=by
   have:vf.size=0:=by simpa using k1
   exact Array.eq_empty_of_size_eq_zero this
  subst hvf
  have hsz1:(w.alloc (.cells #[.int .i64 0] 56)).heap.size=w.heap.size+1:=World.size_alloc _ _
  refine⟨vc,rfl,rel_else hr (fun b hb=>heap_alloc_old w _ b (hb.elim (fun h=>hr.lv_lt h) (fun h=>hr.ro b h))) (by rw [hsz1];omega),by simpa using k2,fun k c u hc hu=>?_⟩
  have h5:=k4 k c u hc (by simpa using hu)
  rw [List.getElem?_map] at hc
  obtain⟨i,hi,rfl⟩:=Option.map_eq_some_iff.1 hc
  cases h5 with
  | ptr h6=>exact .ptr h6
 have var0:∀ {p:Nat} {R R':Nat→Prop} {ρ ρ':Nm} {h h':AH} {w w2:World},Rel R ρ h w→FrmW p R ρ h (w.alloc (.cells #[.int .i64 0] 56)) R' ρ' h' w2 →
   w.heap.size<w2.heap.size∧w2.cell? ⟨w.heap.size,0,none⟩=some (.int .i64 0)∧w2.frozen? ⟨w.heap.size,0,none⟩=false:=by
  intro p R R' ρ ρ' h h' w w2 hr f2
  have hsz1:(w.alloc (.cells #[.int .i64 0] 56)).heap.size=w.heap.size+1:=World.size_alloc _ _
  have hnl:¬Lv ρ h w.heap.size:=fun hl=>by have:=hr.lv_lt hl;omega
  have hb:w2.heap[w.heap.size]?=some (.cells #[.int .i64 0] 56 (0,0)):=by
   rw [f2.keeps w.heap.size (by rw [hsz1];omega) hnl]
   exact Array.getElem?_push_size
  have:=f2.size
  rw [hsz1] at this
  exact⟨by omega,by simp [World.cell?,hb],by simp [World.frozen?,hb]⟩
 refine⟨fun x y hxy R ρ w vs hr hvs=>?_,fun x e hxy R ρ w vs hr hvs=>?_⟩
 ·obtain⟨hF1,hF2⟩:=hF x y hxy
  have hr:Rel R ρ (encB B x.2) w:=hr
  obtain⟨vc,rfl,r1,hcaps⟩:=start x R ρ w vs hr hvs
  have hcall:=he.1 (x0,x.2) ((),y.2) hF1 R ρ (w.alloc (.cells #[.int .i64 0] 56)) vc r1 (by rw [hregs x0 x.2];exact hcaps)
  show Calls CT.P 178 #[.func (.func 264) #[] vc] w _
  refine(try_264 vc w (fun w2=>∃ R' ρ',Rel R' ρ' (encB B y.2) w2∧FrmW pin R ρ (encB B x.2) (w.alloc (.cells #[.int .i64 0] 56)) R' ρ' (encB B y.2) w2) (hcall.mono ?_)).mono ?_
  ·rintro e w' ⟨R',ρ',u,rfl,hu,r2,f2⟩
   have hu:VRep w' R' ρ' (.tup []) u:=hu
   obtain⟨us,rfl,hus⟩:=hu.tup_inv
   have:us=#[]:=by
    have:=hus.nil_inv
    exact Array.toList_inj.1 (by simpa using this)
   subst this
   exact⟨rfl,⟨R',ρ',r2,f2⟩,var0 hr f2⟩
  ·rintro e w' ⟨rfl,w2,w3,⟨R',ρ',r2,f2⟩,hm,rfl⟩
   obtain⟨r3,f3⟩:=frame_own (n:=0) hr r2 f2 (.inl hm)
   refine⟨R',ρ',.int .i64 0,rfl,?_,r3,f3⟩
   have:(LayD.enc ⟨1,[(0,.data I)],B,sg4⟩ y).r=[.int .i64 y.1.1]:=rfl
   rw [this,hF2]
   exact .int _ _
 ·have hr:Rel R ρ (encB B x.2) w:=hr
  obtain⟨vc,rfl,r1,hcaps⟩:=start x R ρ w vs hr hvs
  have hcall:=he.2 (x0,x.2) e (hFp x e hxy) R ρ (w.alloc (.cells #[.int .i64 0] 56)) vc r1 (by rw [hregs x0 x.2];exact hcaps)
  show Calls CT.P 178 #[.func (.func 264) #[] vc] w _
  refine(try_264p vc w e (fun w2=>∃ R',Rel R' ρ0 [] w2∧FrmW 0 R ρ (encB B x.2) (w.alloc (.cells #[.int .i64 0] 56)) R' ρ0 [] w2) (hcall.mono ?_)).mono ?_
  ·rintro q w' ⟨R',u,rfl,hu,r2,f2⟩
   exact⟨⟨u,rfl,fun _ _ _=>fault_any hu⟩,⟨R',r2,f2⟩,var0 hr f2⟩
  ·rintro q w' ⟨rfl,w2,w3,⟨R',r2,f2⟩,hm,rfl⟩
   obtain⟨r3,f3⟩:=frame_own (n:=e) (m:=0) hr r2 f2 (.inr hm)
   exact⟨R',rfl,r3,f3⟩
def c_w73:Code:=Tryz.f264.body.getD .skip
theorem hb_w73:Tryz.f264.body=some c_w73:=by kernel_rfl
theorem hf_w73:CT.P.funcs[264]?=some Tryz.f264:=by kernel_rfl
abbrev IN_w73:LayD:=⟨1,[(0,.ptr 0)],[.var 186 [.data tVec,.own tBody 1,.data (.list tJoint)],.row 64 tBody],fun s=>[slotR s 0,slotC s 0 2]⟩
abbrev OUT_w73:LayD:=⟨0,[],[.var 186 [.data tVec,.own tBody 1,.data (.list tJoint)],.row 64 tBody],fun s=>[0,slotH s 0 2]⟩
def T_w73:Tb:=mkTb tyT mpT [E_w74,E_w75,E_w76,E_w77]
theorem T_w73_ok:T_w73.Ok CT.P:=mkTb_ok (⟨e_w74,e_w75,e_w76,e_w77,trivial⟩)
def lp_w73 {β:Type}:LpT β:=fun _ _ _=>none
theorem lp_w73_ok {β:Type}:LpTOk (CTp 2) (lp_w73 (β:=β)) (loopsOf c_w73):=LpTOk.is [] (by kernel_rfl) (LpTOk.nil)
def F_w73 (b0:Ty.El tVec×Unit×Ty.El (.list tJoint)×Unit)(b1:List (Ty.El tBody)):Option (OUT_w73.El⊕Int):=(F_w74 (b0.1,(),b0.2.2.1,()) b1).bind fun v2=>Sum.elim (fun v4=>(F_w75 (b0.1,(),b0.2.2.1,()) v4.2.1).bind fun v8=>Sum.elim (fun v10=>(F_w76 (b0.1,(),b0.2.2.1,()) v10.2.1).bind fun v14=>Sum.elim (fun v16=>(F_w77 (b0.1,(),b0.2.2.1,()) v16.2.1).bind fun v20=>Sum.elim (fun v22=>some (Sum.inl ((),(b0.1,(),b0.2.2.1,()),v22.2.1,()))) (fun v25=>some (Sum.inr v25)) v20) (fun v26=>some (Sum.inr v26)) v14) (fun v27=>some (Sum.inr v27)) v8) (fun v28=>some (Sum.inr v28)) v2
theorem f_w73 (x:IN_w73.El):funcXP (CTp 2) T_w73 239 IN_w73 OUT_w73 [] (drT (CTp 2) T_w73) lp_w73 Tryz.f264 c_w73 x=F_w73 x.2.1 x.2.2.1:=by kernel_rfl
abbrev IN_w60_73:LayD:=⟨1,[(0,.cloP 264 [0])],[.var 186 [.data tVec,.own tBody 1,.data (.list tJoint)],.row 64 tBody],fun s=>[slotFk s 0 0,slotH s (slotFk s 0 0) 2]⟩
abbrev OUT_w60_73:LayD:=⟨1,[(0,.data I)],[.var 186 [.data tVec,.own tBody 1,.data (.list tJoint)],.row 64 tBody],fun s=>[0,slotH s 0 2]⟩
def F_w60_73 (b0:Ty.El tVec×Unit×Ty.El (.list tJoint)×Unit)(b1:List (Ty.El tBody)):Option (OUT_w60_73.El⊕Int):=(F_w73 b0 b1).bind fun y=>Sum.elim (fun y=>some (.inl ((0,()),y.2))) (fun e=>some (.inr e)) y
def E_w60_73:Ent:=.mkTry 178 [264] ⟨2,[],IN_w60_73,OUT_w60_73,fun x=>F_w60_73 x.2.1 x.2.2.1⟩
theorem ge_w73:GenPE.Ok CT.P 264 ⟨239,2,[],IN_w73,OUT_w73,fun x=>F_w73 x.2.1 x.2.2.1⟩:=
 funcXP_ok (C:=CTp 2) (osteps:=[]) (CTp_ok 2) T_w73_ok (drT_ok (CTp_ok 2) T_w73_ok) hf_w73 hb_w73 lp_w73_ok f_w73
theorem e_w60_73:E_w60_73.Ok CT.P:=Ent.mkTry_ok (by
 refine tryE_264 (is:=[0]) (F2:=fun x=>F_w60_73 x.2.1 x.2.2.1) (fun x b=>rfl) ((),()) (fun x y h=>?_) (fun x e h=>?_) ge_w73
 ·have h:F_w60_73 x.2.1 x.2.2.1=some (.inl y):=h
  unfold F_w60_73 at h
  obtain⟨z,hz,h⟩:=Option.bind_eq_some_iff.1 h
  cases z with
  | inl z=>cases h;exact⟨hz,rfl⟩
  | inr e=>cases h
 ·have h:F_w60_73 x.2.1 x.2.2.1=some (.inr e):=h
  unfold F_w60_73 at h
  obtain⟨z,hz,h⟩:=Option.bind_eq_some_iff.1 h
  cases z with
  | inl z=>cases h
  | inr e=>cases h;exact hz)
def F_w23 (a1:Ty.El tWorld):Option (Els [tWorld,I]):=(F_99 a1).bind fun v2=>bif !v2.1 then some ((((0:Int),(0:Int)),[],[]),(9:Int),()) else(F_w56 a1.2.1).bind fun v4=>(F_w57 a1.2.2).bind fun v6=>(F_w60_73 (a1.1,(),v6.1,()) v4).bind fun v8=>Sum.elim (fun v10=>bif v10.1.1==(0:Int) then(F_99 (v10.2.1.1,v10.2.2.1,v10.2.1.2.2.1)).bind fun v20=>bif !v20.1 then some ((((0:Int),(0:Int)),[],[]),(3:Int),()) else bif v10.1.1 != (0:Int) then some ((((0:Int),(0:Int)),[],[]),v10.1.1,()) else some ((v10.2.1.1,v10.2.2.1,v10.2.1.2.2.1),(0:Int),()) else bif v10.1.1 != (0:Int) then some ((((0:Int),(0:Int)),[],[]),v10.1.1,()) else some ((v10.2.1.1,v10.2.2.1,v10.2.1.2.2.1),(0:Int),())) (fun v41=>bif v41==(0:Int) then none else bif v41 != (0:Int) then some ((((0:Int),(0:Int)),[],[]),v41,()) else none) v8
def E_w23:Ent:=.fn 239 [] ⟨[.ty tWorld],[tWorld,I],fun x=>F_w23 x.1,false⟩
theorem e_w23:E_w23.Ok CT.P:=fn0 CT_ok (tb (l:=[E_99,E_99h,E_w56,E_w57,E_w60_73]) ⟨e_99,e_99,e_w56,e_w57,e_w60_73,trivial⟩) Tryz.f239 (by kernel_rfl) (by kernel_rfl) (by kernel_rfl) fun x=>by kernel_rfl
def c_w15:Code:=Tryz.f192.body.getD .skip
def T_w15:Tb:=mkTb tyT mpT [E_99,E_99h,E_w23,E_w56,E_w57]
theorem T_w15_ok:T_w15.Ok CT.P:=mkTb_ok (⟨e_99,e_99,e_w23,e_w56,e_w57,trivial⟩)
def l_w15_5:Code:=atLoop c_w15 5
abbrev LD_w15_5:LayD:=⟨52,[(2,.ptr 0),(4,.ptr 1),(34,.data I),(35,.data I)],[.var 186 [.data tWorld],.var 186 [.data tWorld]],fun s=>[slotR s 2,slotR s 4]⟩
abbrev LA_w15_5:LayD:=⟨52,[(2,.ptr 0),(4,.ptr 1)],[.var 186 [.data tWorld],.var 186 [.data tWorld]],fun s=>[slotR s 2,slotR s 4]⟩
abbrev LB_w15_5:LayD:=⟨52,[(4,.ptr 0),(5,.data I),(6,.data I)],[.var 186 [.data tWorld]],fun s=>[slotR s 4]⟩
def EX_w15_5:Exits 0 LA_w15_5.El LB_w15_5.El:=⟨.exit 0,LA_w15_5.lay [.frzCell 2 2 (.list tBody)],.ret,LB_w15_5.lay []⟩
def G_w15_5 (r34:Ty.El I)(r35:Ty.El I)(b0:Ty.El tWorld×Unit)(b1:Ty.El tWorld×Unit):Option (LD_w15_5.El⊕(LA_w15_5.El⊕LB_w15_5.El)):=bif decide (r35<r34) then(F_w23 b0.1).bind fun v2=>bif v2.2.1 != (0:Int) then some (Sum.inr (Sum.inr (((),IntKind.i64.wrap (r35+(1:Int)),v2.2.1,()),((((0:Int),(0:Int)),[],[]),()),()))) else some (Sum.inl (((),(),r34,IntKind.i64.wrap (r35+(1:Int)),()),(v2.1,()),(b1.1,()),())) else some (Sum.inr (Sum.inl (((),(),()),(b0.1,()),(b1.1,()),())))
theorem g_w15_5 (x:LD_w15_5.El):codeT CT T_w15 (drT CT T_w15) lp0 l_w15_5 (LD_w15_5.enc x) (bodyK (LD_w15_5.lay [.frzCell 2 2 (.list tBody)]) EX_w15_5)=G_w15_5 x.1.2.2.1 x.1.2.2.2.1 x.2.1 x.2.2.1:=by kernel_rfl
def R_w15_5:LD_w15_5.El→Option (LA_w15_5.El⊕LB_w15_5.El):=roundsT (fun x=>G_w15_5 x.1.2.2.1 x.1.2.2.2.1 x.2.1 x.2.2.1) fuel
def lp_w15 {β:Type}:LpT β:=fun k s K=>if Nat.beq k 5 then lpOne (LD_w15_5.lay [.frzCell 2 2 (.list tBody)]) EX_w15_5 R_w15_5 s K else none
theorem lp_w15_ok {β:Type}:LpTOk CT (lp_w15 (β:=β)) (loopsOf c_w15):=LpTOk.is [(5,l_w15_5)] (by kernel_rfl) (LpTOk.cons (fun s K z h=>lpG CT_ok T_w15_ok (lp0_ok (by kernel_rfl)) (L:=LD_w15_5.lay [.frzCell 2 2 (.list tBody)]) (E:=EX_w15_5) g_w15_5 rfl rfl rfl rfl h) (LpTOk.nil))
def F_w15 (a1:Ty.El tWorld)(a2:Ty.El I):Option (Els [tWorld,I,I]):=bif decide (a2<(0:Int)) then some ((((0:Int),(0:Int)),[],[]),(0:Int),(9:Int),()) else bif decide (a2>(200:Int)) then some ((((0:Int),(0:Int)),[],[]),(0:Int),(9:Int),()) else bif a2==(0:Int) then(F_99 a1).bind fun v2=>bif !v2.1 then some ((((0:Int),(0:Int)),[],[]),(0:Int),(9:Int),()) else(F_w56 a1.2.1).bind fun v4=>(F_w57 a1.2.2).bind fun v6=>(R_w15_5 (((),(),a2,(0:Int),()),((a1.1,v4,v6.1),()),((((0:Int),(0:Int)),[],[]),()),())).bind fun v7=>Sum.elim (fun v8=>some (v8.2.1.1,(0:Int),(0:Int),())) (fun v9=>some (v9.2.1.1,v9.1.2.1,v9.1.2.2.1,())) v7 else(F_w56 a1.2.1).bind fun v11=>(F_w57 a1.2.2).bind fun v13=>(R_w15_5 (((),(),a2,(0:Int),()),((a1.1,v11,v13.1),()),((((0:Int),(0:Int)),[],[]),()),())).bind fun v14=>Sum.elim (fun v15=>some (v15.2.1.1,(0:Int),(0:Int),())) (fun v16=>some (v16.2.1.1,v16.1.2.1,v16.1.2.2.1,())) v14
theorem f_w15 (x:Ps [.ty tWorld,.ty I]):funcT CT T_w15 [tWorld,I,I] (drT CT T_w15) lp_w15 Tryz.f192 c_w15 (encPs [.ty tWorld,.ty I] x)=F_w15 x.1 x.2.1:=by kernel_rfl
def E_w15:Ent:=.fn 192 [] ⟨[.ty tWorld,.ty I],[tWorld,I,I],fun x=>F_w15 x.1 x.2.1,false⟩
theorem e_w15:E_w15.Ok CT.P:=Ent.ofFn CT_ok T_w15_ok (by kernel_rfl) (by kernel_rfl) lp_w15_ok f_w15
end Go.DI.S
end
