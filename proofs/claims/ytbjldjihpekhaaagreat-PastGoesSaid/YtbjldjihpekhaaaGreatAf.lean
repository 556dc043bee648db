import Derived.Test.YtbjldjihpekhaaaGreatAe
import Derived.Test.YtbjldjihpekhaaaGreatTa
/- A step of a world, and many: told by functions on data. No conditions. -/
set_option linter.unusedSimpArgs false
set_option linter.unusedVariables false
set_option maxRecDepth 100000
set_option maxHeartbeats 0
noncomputable section
namespace Go.DI.S
open Go.Proofs
theorem a0T (eA:Array Value)(w:World)(Q:World→Prop)
  (hc:Calls Tryz.prog 264 eA (w.alloc (.cells #[.int .i64 0] 56)) fun e w'=>e=.returned (.tuple #[])∧Q w'∧w.heap.size<w'.heap.size∧w'.cell? ⟨w.heap.size,0,none⟩=some (.int .i64 0)∧w'.frozen? ⟨w.heap.size,0,none⟩=false) :
  Calls Tryz.prog 178 #[.func (.func 264) #[] eA] w fun e w'=>e=.returned (.int .i64 0)∧∃ w2 w3,Q w2∧xE (w2.setCell ⟨w.heap.size,0,none⟩ (.int .i64 0)) w3∧w'=w3.setCell ⟨w.heap.size,0,none⟩ (.int .i64 0):=by
 have hmf:∀ (fn:Fn) (first cap:Array Value) (w:World),(Instr.makeFunc fn first cap).run Tryz.prog w=.ok (.func fn first cap) w:=fun _ _ _ _=>rfl;have hnil:∀ (f:Fn) (a b:Array Value) (w:World),(binOp BinOp.eql 1 (.func f a b) .nilFunc).run Tryz.prog w=.ok (.bool false) w:=aPH
 go_enter_defers Tryz.func178,Tryz.ntmps178
 go_wp2_with (first | (go_at_call 264;refine hc.mono ?_;rintro e w' ⟨rfl,hQ,h0,h1,h2⟩))
 have e1:(w'.setCell ⟨w.heap.size,0,none⟩ (.int .i64 0)).cell? ⟨w.heap.size,0,none⟩=some (.int .i64 0):=by
  simp [go_sem,h1]
 have e2:(w'.setCell ⟨w.heap.size,0,none⟩ (.int .i64 0)).frozen? ⟨w.heap.size,0,none⟩=false:=by
  simp [go_sem,h2]
 have e0:w.heap.size<(w'.setCell ⟨w.heap.size,0,none⟩ (.int .i64 0)).heap.size:=by simpa [World.setCell] using h0
 refine leaves_cons (f:=225) (args:=#[.pointer (some ⟨w.heap.size,0,none⟩)]) (by simp) (by simp [go_sem]) ?_;refine(SY ⟨w.heap.size,0,none⟩ _ 0 e0 e1 e2).mono ?_;rintro e u' w'' ⟨rfl,rfl,w3,hm,rfl⟩;have e4:w3.cell? ⟨w.heap.size,0,none⟩=some (.int .i64 0):=by rw [hm.cell e0,e1]
 have e3:(w3.setCell ⟨w.heap.size,0,none⟩ (.int .i64 0)).cell? ⟨w.heap.size,0,none⟩=some (.int .i64 0):=by
  simp [go_sem,e4]
 simp [Leaves,settle,results,Tryz.results178,go_sem,e3];exact⟨_,hQ,_,hm,rfl⟩
theorem aWt (eA:Array Value)(w:World)(n:Int)(Q:World→Prop)
  (hc:Calls Tryz.prog 264 eA (w.alloc (.cells #[.int .i64 0] 56)) fun e w'=>(∃ v,e=.panicked [{ v:=v,recovered:=false }]∧∀ (w:World) (R:Nat→Prop) (ρ:Nm),aI w R ρ (cT 239 n) v)∧Q w'∧w.heap.size<w'.heap.size∧w'.cell? ⟨w.heap.size,0,none⟩=some (.int .i64 0)∧w'.frozen? ⟨w.heap.size,0,none⟩=false) :
  Calls Tryz.prog 178 #[.func (.func 264) #[] eA] w fun e w'=>e=.returned (.int .i64 n)∧∃ w2 w3,Q w2∧xE w2 w3∧w'=w3.setCell ⟨w.heap.size,0,none⟩ (.int .i64 n):=by
 have hmf:∀ (fn:Fn) (first cap:Array Value) (w:World),(Instr.makeFunc fn first cap).run Tryz.prog w=.ok (.func fn first cap) w:=fun _ _ _ _=>rfl;have hnil:∀ (f:Fn) (a b:Array Value) (w:World),(binOp BinOp.eql 1 (.func f a b) .nilFunc).run Tryz.prog w=.ok (.bool false) w:=aPH
 go_enter_defers Tryz.func178,Tryz.ntmps178
 go_wp2_with (first | (go_at_call 264;refine hc.mono ?_;rintro e w' ⟨⟨v,rfl,hv⟩,hQ,h0,h1,h2⟩))
 refine leaves_cons (f:=225) (args:=#[.pointer (some ⟨w.heap.size,0,none⟩)]) (by simp) (by simp [go_sem]) ?_;refine(JY ⟨w.heap.size,0,none⟩ w' 0 n v hv h0 h1 h2).mono ?_;rintro e u' w'' ⟨rfl,rfl,w3,hm,rfl⟩;have e4:w3.cell? ⟨w.heap.size,0,none⟩=some (.int .i64 0):=by rw [hm.cell h0,h1]
 have e3:(w3.setCell ⟨w.heap.size,0,none⟩ (.int .i64 n)).cell? ⟨w.heap.size,0,none⟩=some (.int .i64 n):=by
  simp [go_sem,e4]
 simp [Leaves,settle,results,Tryz.results178,go_sem,e3];exact⟨_,hQ,_,hm,rfl⟩
theorem aWu {n:Nat}{is:List Nat}{B:List Bl}{fH:List (Nat×It)}{sg1 sg2 sg3 sg4:AS→List Nat}{dB:Nat}{st:List qO}{F:(aF.mk n fH B sg1).El→Option ((aF.mk 0 [] B sg2).El⊕Int)}{F2:(aF.mk 1 [(0,.eG 264 is)] B sg3).El→Option ((aF.mk 1 [(0,.data I)] B sg4).El⊕Int)}
  (kD:∀ (x:jW fH) (b:lU B),((aF.mk n fH B sg1).enc (x,b)).r=is.map fun i=>.ptr i 0)
  (x0:jW fH) (hF:∀ x y,F2 x=some (.inl y)→F (x0,x.2)=some (.inl ((),y.2))∧y.1=(0,())) (hFp:∀ x e,F2 x=some (.inr e)→F (x0,x.2)=some (.inr e))
  (he:(pO.mk 239 dB st ⟨n,fH,B,sg1⟩ ⟨0,[],B,sg2⟩ F).Ok CT.P 264) {st2:List qO}:(M3.mk dB st2 ⟨1,[(0,.eG 264 is)],B,sg3⟩ ⟨1,[(0,.data I)],B,sg4⟩ F2).Ok CT.P 178:=by
 have start:∀ (x:(aF.mk 1 [(0,.eG 264 is)] B sg3).El) (R:Nat→Prop) (ρ:Nm) (w:World) (vs:Array Value),Rel R ρ (gH B x.2) w→aK w R ρ [.func 264 [] (is.map fun i=>.ptr i 0)] vs.toList →
   ∃ vc:Array Value,vs=#[.func (.func 264) #[] vc]∧Rel R ρ (gH B x.2) (w.alloc (.cells #[.int .i64 0] 56))∧aK (w.alloc (.cells #[.int .i64 0] 56)) R ρ (is.map fun i=>.ptr i 0) vc.toList:=by
  intro x R ρ w vs hr hvs;obtain⟨u0,us,hu,h1,h2⟩:=hvs.cons_inv;obtain rfl:=h2.bE;have hv:vs=#[u0]:=aRl.1 (by simpa using hu);subst hv;cases h1 with
  | func vf vc k1 k2 k3 k4=>
  have hvf:vf=#[]:=by
   have:vf.size=0:=by simpa using k1
   exact a9C this
  subst hvf;have hsz1:(w.alloc (.cells #[.int .i64 0] 56)).heap.size=w.heap.size+1:=World.size_alloc _ _;refine⟨vc,rfl,F6 hr (fun b hb=>heap_alloc_old w _ b (hb.elim (fun h=>hr.iS h) (fun h=>hr.ro b h))) (by rw [hsz1];omega),by simpa using k2,fun k c u hc hu=>?_⟩;have h5:=k4 k c u hc (by simpa using hu);rw [aQn] at hc;obtain⟨i,hi,rfl⟩:=aPV.1 hc;cases h5 with
  | ptr h6=>exact .ptr h6
 have aGn:∀ {p:Nat} {R R':Nat→Prop} {ρ ρ':Nm} {h h':AH} {w w2:World},Rel R ρ h w→eF p R ρ h (w.alloc (.cells #[.int .i64 0] 56)) R' ρ' h' w2 →
   w.heap.size<w2.heap.size∧w2.cell? ⟨w.heap.size,0,none⟩=some (.int .i64 0)∧w2.frozen? ⟨w.heap.size,0,none⟩=false:=by
  intro p R R' ρ ρ' h h' w w2 hr f2;have hsz1:(w.alloc (.cells #[.int .i64 0] 56)).heap.size=w.heap.size+1:=World.size_alloc _ _;have hnl:¬Lv ρ h w.heap.size:=fun hl=>by have:=hr.iS hl;omega
  have hb:w2.heap[w.heap.size]?=some (.cells #[.int .i64 0] 56 (0,0)):=by
   rw [f2.keeps w.heap.size (by rw [hsz1];omega) hnl];exact Array.getElem?_push_size
  have:=f2.size;rw [hsz1] at this;exact⟨by omega,by simp [World.cell?,hb],by simp [World.frozen?,hb]⟩
 refine⟨fun x y hxy R ρ w vs hr hvs=>?_,fun x e hxy R ρ w vs hr hvs=>?_⟩
 ·obtain⟨hF1,hF2⟩:=hF x y hxy;have hr:Rel R ρ (gH B x.2) w:=hr;obtain⟨vc,rfl,r1,CE⟩:=start x R ρ w vs hr hvs;have hcall:=he.1 (x0,x.2) ((),y.2) hF1 R ρ (w.alloc (.cells #[.int .i64 0] 56)) vc r1 (by rw [kD x0 x.2];exact CE);show Calls CT.P 178 #[.func (.func 264) #[] vc] w _;refine(a0T vc w (fun w2=>∃ R' ρ',Rel R' ρ' (gH B y.2) w2∧eF dB R ρ (gH B x.2) (w.alloc (.cells #[.int .i64 0] 56)) R' ρ' (gH B y.2) w2) (hcall.mono ?_)).mono ?_
  ·rintro e w' ⟨R',ρ',u,rfl,hu,r2,f2⟩;have hu:aI w' R' ρ' (.xF []) u:=hu;obtain⟨us,rfl,fE⟩:=hu.qT;have:us=#[]:=by
    have:=fE.bE;exact aRl.1 (by simpa using this)
   subst this;exact⟨rfl,⟨R',ρ',r2,f2⟩,aGn hr f2⟩
  ·rintro e w' ⟨rfl,w2,w3,⟨R',ρ',r2,f2⟩,hm,rfl⟩;obtain⟨r3,f3⟩:=oO (n:=0) hr r2 f2 (.inl hm);refine⟨R',ρ',.int .i64 0,rfl,?_,r3,f3⟩;have:(aF.enc ⟨1,[(0,.data I)],B,sg4⟩ y).r=[.int .i64 y.1.1]:=rfl;rw [this,hF2];exact .int _ _
 ·have hr:Rel R ρ (gH B x.2) w:=hr;obtain⟨vc,rfl,r1,CE⟩:=start x R ρ w vs hr hvs;have hcall:=he.2 (x0,x.2) e (hFp x e hxy) R ρ (w.alloc (.cells #[.int .i64 0] 56)) vc r1 (by rw [kD x0 x.2];exact CE);show Calls CT.P 178 #[.func (.func 264) #[] vc] w _;refine(aWt vc w e (fun w2=>∃ R',Rel R' gI [] w2∧eF 0 R ρ (gH B x.2) (w.alloc (.cells #[.int .i64 0] 56)) R' gI [] w2) (hcall.mono ?_)).mono ?_
  ·rintro q w' ⟨R',u,rfl,hu,r2,f2⟩;exact⟨⟨u,rfl,fun _ _ _=>iH hu⟩,⟨R',r2,f2⟩,aGn hr f2⟩
  ·rintro q w' ⟨rfl,w2,w3,⟨R',r2,f2⟩,hm,rfl⟩;obtain⟨r3,f3⟩:=oO (n:=e) (m:=0) hr r2 f2 (.inr hm);exact⟨R',rfl,r3,f3⟩
def aWv:Code:=Tryz.f264.body.getD .skip
theorem a72:Tryz.f264.body=some aWv:=by kernel_rfl
theorem a73:CT.P.funcs[264]?=some Tryz.f264:=by kernel_rfl
abbrev aKG:aF:=⟨1,[(0,.ptr 0)],[.var 186 [.data aU,.own aM 1,.data (.list aP)],.row 64 aM],fun s=>[aG s 0,dL s 0 2]⟩
abbrev aDJ:aF:=⟨0,[],[.var 186 [.data aU,.own aM 1,.data (.list aP)],.row 64 aM],fun s=>[0,fO s 0 2]⟩
def aWw:Tb:=cC iL iM [a3m,a3n,a3o,a3p]
theorem aHw:aWw.Ok CT.P:=aQ (⟨bDa,bDc,bDe,bDg,trivial⟩)
def aWx {β:Type}:dK β:=fun _ _ _=>none
theorem aQw {β:Type}:aC (bY 2) (aWx (β:=β)) (aJ aWv):=aC.is [] (by kernel_rfl) (aC.nil)
def aAi (b0:Ty.El aU×Unit×Ty.El (.list aP)×Unit)(b1:List (Ty.El aM)):Option (aDJ.El⊕Int):=(aHk (b0.1,(),b0.2.2.1,()) b1).bind fun v2=>Sum.elim (fun v4=>(aHn (b0.1,(),b0.2.2.1,()) v4.2.1).bind fun v8=>Sum.elim (fun v10=>(aHr (b0.1,(),b0.2.2.1,()) v10.2.1).bind fun pX=>Sum.elim (fun sW=>(aHv (b0.1,(),b0.2.2.1,()) sW.2.1).bind fun v20=>Sum.elim (fun v22=>some (Sum.inl ((),(b0.1,(),b0.2.2.1,()),v22.2.1,()))) (fun v25=>some (Sum.inr v25)) v20) (fun v26=>some (Sum.inr v26)) pX) (fun v27=>some (Sum.inr v27)) v8) (fun v28=>some (Sum.inr v28)) v2
theorem bDh (x:aKG.El):vO (bY 2) aWw 239 aKG aDJ [] (cB (bY 2) aWw) aWx Tryz.f264 aWv x=aAi x.2.1 x.2.2.1:=by kernel_rfl
abbrev aQx:aF:=⟨1,[(0,.eG 264 [0])],[.var 186 [.data aU,.own aM 1,.data (.list aP)],.row 64 aM],fun s=>[iA s 0 0,fO s (iA s 0 0) 2]⟩
abbrev VX:aF:=⟨1,[(0,.data I)],[.var 186 [.data aU,.own aM 1,.data (.list aP)],.row 64 aM],fun s=>[0,fO s 0 2]⟩
def nD (b0:Ty.El aU×Unit×Ty.El (.list aP)×Unit)(b1:List (Ty.El aM)):Option (VX.El⊕Int):=(aAi b0 b1).bind fun y=>Sum.elim (fun y=>some (.inl ((0,()),y.2))) (fun e=>some (.inr e)) y
def aHx:aW:=.aR3 178 [264] ⟨2,[],aQx,VX,fun x=>nD x.2.1 x.2.2.1⟩
theorem a74:pO.Ok CT.P 264 ⟨239,2,[],aKG,aDJ,fun x=>aAi x.2.1 x.2.2.1⟩:=
 JA (C:=bY 2) (cN:=[]) (aY 2) aHw (eZ (aY 2) aHw) a73 a72 aQw bDh
theorem aWy:aHx.Ok CT.P:=aW.aFg (by
 refine aWu (is:=[0]) (F2:=fun x=>nD x.2.1 x.2.2.1) (fun x b=>rfl) ((),()) (fun x y h=>?_) (fun x e h=>?_) a74
 ·have h:nD x.2.1 x.2.2.1=some (.inl y):=h;unfold nD at h;obtain⟨z,hz,h⟩:=aXE.1 h;cases z with
  | inl z=>cases h;exact⟨hz,rfl⟩
  | inr e=>cases h
 ·have h:nD x.2.1 x.2.2.1=some (.inr e):=h;unfold nD at h;obtain⟨z,hz,h⟩:=aXE.1 h;cases z with
  | inl z=>cases h
  | inr e=>cases h;exact hz)
def aAj (a1:Ty.El bS):Option (aS [bS,I]):=(rL a1).bind fun v2=>bif !v2.1 then some ((((0:Int),(0:Int)),[],[]),(9:Int),()) else(CK a1.2.1).bind fun v4=>(CM a1.2.2).bind fun v6=>(nD (a1.1,(),v6.1,()) v4).bind fun v8=>Sum.elim (fun v10=>bif v10.1.1==(0:Int) then(rL (v10.2.1.1,v10.2.2.1,v10.2.1.2.2.1)).bind fun v20=>bif !v20.1 then some ((((0:Int),(0:Int)),[],[]),(3:Int),()) else bif v10.1.1 != (0:Int) then some ((((0:Int),(0:Int)),[],[]),v10.1.1,()) else some ((v10.2.1.1,v10.2.2.1,v10.2.1.2.2.1),(0:Int),()) else bif v10.1.1 != (0:Int) then some ((((0:Int),(0:Int)),[],[]),v10.1.1,()) else some ((v10.2.1.1,v10.2.2.1,v10.2.1.2.2.1),(0:Int),())) (fun v41=>bif v41==(0:Int) then none else bif v41 != (0:Int) then some ((((0:Int),(0:Int)),[],[]),v41,()) else none) v8
def a3q:aW:=.fn 239 [] ⟨[.ty bS],[bS,I],fun x=>aAj x.1,false⟩
theorem bDi:a3q.Ok CT.P:=fn0 aL (tb (l:=[aSg,a17,aV0,aV1,aHx]) ⟨aO5,aO5,a3h,a3i,aWy,trivial⟩) Tryz.f239 (by kernel_rfl) fun x=>by kernel_rfl
def aWz:Code:=Tryz.f192.body.getD .skip
def aHy:Tb:=cC iL iM [aSg,a17,a3q,aV0,aV1]
theorem aHz:aHy.Ok CT.P:=aQ (⟨aO5,aO5,bDi,a3h,a3i,trivial⟩)
def aNG:Code:=aX aWz 5
abbrev uV:aF:=⟨52,[(2,.ptr 0),(4,.ptr 1),(34,.data I),(35,.data I)],[.var 186 [.data bS],.var 186 [.data bS]],fun s=>[aG s 2,aG s 4]⟩
abbrev VY:aF:=⟨52,[(2,.ptr 0),(4,.ptr 1)],[.var 186 [.data bS],.var 186 [.data bS]],fun s=>[aG s 2,aG s 4]⟩
abbrev VZ:aF:=⟨52,[(4,.ptr 0),(5,.data I),(6,.data I)],[.var 186 [.data bS]],fun s=>[aG s 4]⟩
def aHA:=ex 0 0 VY VZ [.nT 2 2 (.list aM)] []
def oE (r34:Ty.El I)(r35:Ty.El I)(b0:Ty.El bS×Unit)(b1:Ty.El bS×Unit):Option (uV.El⊕(VY.El⊕VZ.El)):=bif decide (r35<r34) then(aAj b0.1).bind fun v2=>bif v2.2.1 != (0:Int) then some (Sum.inr (Sum.inr (((),IntKind.i64.wrap (r35+(1:Int)),v2.2.1,()),((((0:Int),(0:Int)),[],[]),()),()))) else some (Sum.inl (((),(),r34,IntKind.i64.wrap (r35+(1:Int)),()),(v2.1,()),(b1.1,()),())) else some (Sum.inr (Sum.inl (((),(),()),(b0.1,()),(b1.1,()),())))
theorem a0U (x:uV.El):aV CT aHy (cB CT aHy) iI aNG (uV.enc x) (bG (uV.lay [.nT 2 2 (.list aM)]) aHA)=oE x.1.2.2.1 x.1.2.2.2.1 x.2.1 x.2.2.1:=by kernel_rfl
def OI:uV.El→Option (VY.El⊕VZ.El):=aH (fun x=>oE x.1.2.2.1 x.1.2.2.2.1 x.2.1 x.2.2.1) fuel
def aWA {β:Type}:dK β:=fun k s K=>if Nat.beq k 5 then bO (uV.lay [.nT 2 2 (.list aM)]) aHA OI s K else none
theorem aQy {β:Type}:aC CT (aWA (β:=β)) (aJ aWz):=aC.is [(5,aNG)] (by kernel_rfl) (aC.cons (iW aL aHz (bC (by kernel_rfl)) a0U rfl rfl) (aC.nil))
def G6 (a1:Ty.El bS)(a2:Ty.El I):Option (aS [bS,I,I]):=bif decide (a2<(0:Int)) then some ((((0:Int),(0:Int)),[],[]),(0:Int),(9:Int),()) else bif decide (a2>(200:Int)) then some ((((0:Int),(0:Int)),[],[]),(0:Int),(9:Int),()) else bif a2==(0:Int) then(rL a1).bind fun v2=>bif !v2.1 then some ((((0:Int),(0:Int)),[],[]),(0:Int),(9:Int),()) else(CK a1.2.1).bind fun v4=>(CM a1.2.2).bind fun v6=>(OI (((),(),a2,(0:Int),()),((a1.1,v4,v6.1),()),((((0:Int),(0:Int)),[],[]),()),())).bind fun v7=>Sum.elim (fun v8=>some (v8.2.1.1,(0:Int),(0:Int),())) (fun v9=>some (v9.2.1.1,v9.1.2.1,v9.1.2.2.1,())) v7 else(CK a1.2.1).bind fun v11=>(CM a1.2.2).bind fun DM=>(OI (((),(),a2,(0:Int),()),((a1.1,v11,DM.1),()),((((0:Int),(0:Int)),[],[]),()),())).bind fun pX=>Sum.elim (fun QE=>some (QE.2.1.1,(0:Int),(0:Int),())) (fun sW=>some (sW.2.1.1,sW.1.2.1,sW.1.2.2.1,())) pX
theorem bDj (x:Ps [.ty bS,.ty I]):dA CT aHy [bS,I,I] (cB CT aHy) aWA Tryz.f192 aWz (bQ [.ty bS,.ty I] x)=G6 x.1 x.2.1:=by kernel_rfl
def bDk:aW:=.fn 192 [] ⟨[.ty bS,.ty I],[bS,I,I],fun x=>G6 x.1 x.2.1,false⟩
theorem bDl:bDk.Ok CT.P:=aW.ofFn aL aHz (by kernel_rfl) (by kernel_rfl) aQy bDj
end Go.DI.S
end
