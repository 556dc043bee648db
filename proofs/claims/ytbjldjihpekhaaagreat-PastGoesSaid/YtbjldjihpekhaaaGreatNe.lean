import Derived.Test.YtbjldjihpekhaaaGreatTa
import Derived.Test.YtbjldjihpekhaaaGreatDie
import Derived.Test.YtbjldjihpekhaaaGreatNd
/- Bodies moved, turned, whatever comes of it: told by functions on data. No conditions. -/
set_option linter.unusedSimpArgs false
set_option linter.unusedVariables false
set_option maxRecDepth 100000
set_option maxHeartbeats 0
noncomputable section
namespace Go.DI.S
open Go.Proofs
theorem aMT {n:Nat}{is:List Nat}{B:List Bl}{fH:List (Nat×It)}{sg1 sg2 sg3 sg4 sg5:AS→List Nat}{dB:Nat}{F:(aF.mk n fH B sg1).El→Option ((aF.mk 0 [] B sg2).El⊕(Int×(aF.mk 0 [] B sg5).El))}{F2:(aF.mk 1 [(0,.eG 179 is)] B sg3).El→Option (aF.mk 1 [(0,.data I)] B sg4).El}
  (kD:∀ (x:jW fH) (b:lU B),((aF.mk n fH B sg1).enc (x,b)).r=is.map fun i=>.ptr i 0)
  (x0:jW fH) (hF:∀ x y,F2 x=some y→(F (x0,x.2)=some (.inl ((),y.2))∧y.1=(0,()))∨∃ e,F (x0,x.2)=some (.inr (e,((),y.2)))∧y.1=(e,()))
  (he:(YX.mk 239 dB ⟨n,fH,B,sg1⟩ ⟨0,[],B,sg2⟩ ⟨0,[],B,sg5⟩ F).Ok CT.P 179) {st2:List qO}:(DF.mk dB st2 ⟨1,[(0,.eG 179 is)],B,sg3⟩ ⟨1,[(0,.data I)],B,sg4⟩ F2).Ok CT.P 178:=by
 have start:∀ (x:(aF.mk 1 [(0,.eG 179 is)] B sg3).El) (R:Nat→Prop) (ρ:Nm) (w:World) (vs:Array Value),Rel R ρ (gH B x.2) w→aK w R ρ [.func 179 [] (is.map fun i=>.ptr i 0)] vs.toList →
   ∃ vc:Array Value,vs=#[.func (.func 179) #[] vc]∧Rel R ρ (gH B x.2) (w.alloc (.cells #[.int .i64 0] 56))∧aK (w.alloc (.cells #[.int .i64 0] 56)) R ρ (is.map fun i=>.ptr i 0) vc.toList:=by
  intro x R ρ w vs hr hvs;obtain⟨u0,us,hu,h1,h2⟩:=hvs.cons_inv;obtain rfl:=h2.bE;have hv:vs=#[u0]:=aRl.1 (by simpa using hu);subst hv;cases h1 with
  | func vf vc k1 k2 k3 k4=>
  have hvf:vf=#[]:=by
   have:vf.size=0:=by simpa using k1
   exact a9C this
  subst hvf;have hsz1:(w.alloc (.cells #[.int .i64 0] 56)).heap.size=w.heap.size+1:=World.size_alloc _ _;refine⟨vc,rfl,F6 hr (fun b hb=>heap_alloc_old w _ b (hb.elim (fun h=>hr.iS h) (fun h=>hr.ro b h))) (by rw [hsz1];omega),by simpa using k2,fun k c u hc hu=>?_⟩;have h5:=k4 k c u hc (by simpa using hu);rw [aQn] at hc;obtain⟨i,hi,rfl⟩:=aPV.1 hc;cases h5 with
  | ptr h6=>exact .ptr h6
 have aGn:∀ {p:Nat} {R R':Nat→Prop} {ρ ρ':Nm} {h h':AH} {w w2:World},Rel R ρ h w→eF p R ρ h (w.alloc (.cells #[.int .i64 0] 56)) R' ρ' h' w2 →
   w.heap.size<w2.heap.size∧w2.cell? ⟨w.heap.size,0,none⟩=some (.int .i64 0)∧w2.frozen? ⟨w.heap.size,0,none⟩=false:=by
  intro p R R' ρ ρ' h h' w w2 hr f2;have hsz1:(w.alloc (.cells #[.int .i64 0] 56)).heap.size=w.heap.size+1:=World.size_alloc _ _;have hnl:¬Lv ρ h w.heap.size:=fun hl=>by have:=hr.iS hl;omega
  have hb:w2.heap[w.heap.size]?=some (.cells #[.int .i64 0] 56 (0,0)):=by
   rw [f2.keeps w.heap.size (by rw [hsz1];omega) hnl];exact Array.getElem?_push_size
  have:=f2.size;rw [hsz1] at this;exact⟨by omega,by simp [World.cell?,hb],by simp [World.frozen?,hb]⟩
 intro x y hxy R ρ w vs hr hvs;have hr:Rel R ρ (gH B x.2) w:=hr;obtain⟨vc,rfl,r1,CE⟩:=start x R ρ w vs hr hvs;rcases hF x y hxy with⟨hF1,hF2⟩ | ⟨e,hF1,hF2⟩
 ·have hcall:=he.1 (x0,x.2) ((),y.2) hF1 R ρ (w.alloc (.cells #[.int .i64 0] 56)) vc r1 (by rw [kD x0 x.2];exact CE);show Calls CT.P 178 #[.func (.func 179) #[] vc] w _;refine(a5V vc w (fun w2=>∃ R' ρ',Rel R' ρ' (gH B y.2) w2∧eF dB R ρ (gH B x.2) (w.alloc (.cells #[.int .i64 0] 56)) R' ρ' (gH B y.2) w2) (hcall.mono ?_)).mono ?_
  ·rintro e w' ⟨R',ρ',u,rfl,hu,r2,f2⟩;have hu:aI w' R' ρ' (.xF []) u:=hu;obtain⟨us,rfl,fE⟩:=hu.qT;have:us=#[]:=by
    have:=fE.bE;exact aRl.1 (by simpa using this)
   subst this;exact⟨rfl,⟨R',ρ',r2,f2⟩,aGn hr f2⟩
  ·rintro e w' ⟨rfl,w2,w3,⟨R',ρ',r2,f2⟩,hm,rfl⟩;obtain⟨r3,f3⟩:=oO (n:=0) hr r2 f2 (.inl hm);refine⟨R',ρ',.int .i64 0,rfl,?_,r3,f3⟩;have:(aF.enc ⟨1,[(0,.data I)],B,sg4⟩ y).r=[.int .i64 y.1.1]:=rfl;rw [this,hF2];exact .int _ _
 ·have hcall:=he.2 (x0,x.2) (e,((),y.2)) hF1 R ρ (w.alloc (.cells #[.int .i64 0] 56)) vc r1 (by rw [kD x0 x.2];exact CE);show Calls CT.P 178 #[.func (.func 179) #[] vc] w _;refine(aZD vc w e (fun w2=>∃ R' ρ',Rel R' ρ' (gH B y.2) w2∧eF dB R ρ (gH B x.2) (w.alloc (.cells #[.int .i64 0] 56)) R' ρ' (gH B y.2) w2) (hcall.mono ?_)).mono ?_
  ·rintro q w' ⟨R',ρ',u,rfl,hu,r2,f2⟩;exact⟨⟨u,rfl,fun _ _ _=>iH hu⟩,⟨R',ρ',r2,f2⟩,aGn hr f2⟩
  ·rintro q w' ⟨rfl,w2,w3,⟨R',ρ',r2,f2⟩,hm,rfl⟩;obtain⟨r3,f3⟩:=oO (n:=e) (m:=0) hr r2 f2 (.inr hm);refine⟨R',ρ',.int .i64 e,rfl,?_,r3,f3⟩;have:(aF.enc ⟨1,[(0,.data I)],B,sg4⟩ y).r=[.int .i64 y.1.1]:=rfl;rw [this,hF2];exact .int _ _
def AP:Code:=Tryz.f179.body.getD .skip
theorem aJK:Tryz.f179.body=some AP:=by kernel_rfl
theorem aJL:CT.P.funcs[179]?=some Tryz.f179:=by kernel_rfl
abbrev D4:aF:=⟨3,[(0,.ptr 0),(1,.ptr 1),(2,.ptr 2)],[.var 51 [.data aU,.data I,.own aA 4],.var 23 [.data (.list I)],.var 199 [.kV 135 [3]],.var 140 [.data aR],.row 68 aA],fun s=>[aG s 0,aG s 1,aG s 2,aBm s (aG s 2) 0,dL s 0 3]⟩
abbrev yJ:aF:=⟨0,[],[.var 51 [.data aU,.data I,.own aA 4],.var 23 [.data (.list I)],.var 199 [.kV 135 [3]],.var 140 [.data aR],.row 68 aA],fun s=>[0,1,2,3,fO s 0 3]⟩
abbrev D5:aF:=⟨0,[],[.var 51 [.data aU,.data I,.own aA 4],.var 23 [.data (.list I)],.var 199 [.kV 135 [3]],.var 140 [.data aR],.row 68 aA],fun s=>[0,1,2,3,fO s 0 3]⟩
abbrev i7:aF:=⟨37,[],[.var 51 [.data aU,.data I,.own aA 4],.var 23 [.data (.list I)],.var 199 [.kV 135 [3]],.var 140 [.data aR],.row 68 aA],fun s=>[0,1,2,3,fO s 0 3]⟩
def tK:Tb:=cC iL iM [aTM,aT9,aR9]
theorem n8:tK.Ok CT.P:=aQ (⟨aZp,a5S,aO4,trivial⟩)
def rC:Code:=aX AP 1
abbrev fX:aF:=⟨37,[(0,.ptr 0),(1,.ptr 1),(2,.ptr 2),(6,.own aA 4),(7,.data I),(8,.data I)],[.var 51 [.data aU,.data I,.own aA 4],.var 23 [.data (.list I)],.var 199 [.kV 135 [3]],.var 140 [.data aR],.row 68 aA],fun s=>[0,1,2,3,fO s 0 3]⟩
abbrev wC:aF:=⟨37,[],[.var 51 [.data aU,.data I,.own aA 4],.var 23 [.data (.list I)],.var 199 [.kV 135 [3]],.var 140 [.data aR],.row 68 aA],fun s=>[0,1,2,3,fO s 0 3]⟩
abbrev wD:aF:=l0 37
def iB:=ex 4 0 wC wD [] []
def CF {β:Type}:dK β:=fun _ _ _=>none
theorem J6 {β:Type}:aC (bY 4) (CF (β:=β)) (aJ rC):=aC.is [] (by kernel_rfl) (aC.nil)
def gZ (r7:Ty.El I)(r8:Ty.El I)(b0:Ty.El aU×Ty.El I×Unit×Unit)(b1:Ty.El (.list I)×Unit)(b2:Unit×Unit)(b3:Ty.El aR×Unit)(b4:List (Ty.El aA)):Option (fX.El⊕((wC.El⊕wD.El)⊕(Int×i7.El))):=bif decide (r8<r7) then bif decide ((0:Int)≤r8∧r8<(↑b4.length:Int)) then(RV b1.1 (b4.getD (Int.toNat r8) aA.dflt).1).bind fun v2=>bif !v2.1 then some (Sum.inl (((),(),(),(),r7,IntKind.i64.wrap (r8+(1:Int)),()),(b0.1,b0.2.1,(),()),(b1.1,()),((),()),(b3.1,()),b4,())) else(JX b3.1 (b4.getD (Int.toNat r8) aA.dflt).2.2.1.2.2.2.1).bind fun v4=>Sum.elim (fun v6=>(l5 ((b4.getD (Int.toNat r8) aA.dflt).2.2.1.1,(b4.getD (Int.toNat r8) aA.dflt).2.2.1.2.1,(b4.getD (Int.toNat r8) aA.dflt).2.2.1.2.2.1,v6.1,(b4.getD (Int.toNat r8) aA.dflt).2.2.1.2.2.2.2)).bind fun v8=>bif !v8.1 then some (Sum.inr (Sum.inr ((3:Int),((),(b0.1,b0.2.1,(),()),(b1.1,()),((),()),(b3.1,()),b4,())))) else bif decide ((0:Int)≤r8∧r8<(↑b4.length:Int)) then some (Sum.inl (((),(),(),(),r7,IntKind.i64.wrap (r8+(1:Int)),()),(b0.1,b0.2.1,(),()),(b1.1,()),((),()),(b3.1,()),b4.set (Int.toNat r8) ((b4.getD (Int.toNat r8) aA.dflt).1,(b4.getD (Int.toNat r8) aA.dflt).2.1,((b4.getD (Int.toNat r8) aA.dflt).2.2.1.1,(b4.getD (Int.toNat r8) aA.dflt).2.2.1.2.1,(b4.getD (Int.toNat r8) aA.dflt).2.2.1.2.2.1,v6.1,(b4.getD (Int.toNat r8) aA.dflt).2.2.1.2.2.2.2),(b4.getD (Int.toNat r8) aA.dflt).2.2.2),())) else none) (fun v9=>some (Sum.inr (Sum.inr (v9,((),(b0.1,b0.2.1,(),()),(b1.1,()),((),()),(b3.1,()),b4,()))))) v4 else none else some (Sum.inr (Sum.inl (Sum.inl ((),(b0.1,b0.2.1,(),()),(b1.1,()),((),()),(b3.1,()),b4,()))))
theorem aGq (x:fX.El):aV (bY 4) tK (cB (bY 4) tK) CF rC (fX.enc x) (QD (fX.lay []) iB (i7.lay []) 239)=gZ x.1.2.2.2.2.1 x.1.2.2.2.2.2.1 x.2.1 x.2.2.1 x.2.2.2.1 x.2.2.2.2.1 x.2.2.2.2.2.1:=by kernel_rfl
def yK:fX.El→Option ((wC.El⊕wD.El)⊕(Int×i7.El)):=aH (fun x=>gZ x.1.2.2.2.2.1 x.1.2.2.2.2.2.1 x.2.1 x.2.2.1 x.2.2.2.1 x.2.2.2.2.1 x.2.2.2.2.2.1) fuel
theorem aGr:∀ x y,yK x=some y→CL (bY 4) rC (fX.enc x) (Sum.elim (fun ab=>Sum.elim (fun _=>iB.xa) (fun _=>iB.xb) ab) (fun e=>.fN (cT 239 e.1)) y) (Sum.elim (fun ab=>Sum.elim iB.la.enc iB.lb.enc ab) (fun e=>((i7.lay []):Lay 4 _).enc e.2) y):=
 DH (L:=fX.lay []) (E:=iB) (M:=i7.lay []) (aY 4) n8 (eZ (aY 4) n8) J6 aGq rfl rfl (fun v h=>by have hh:(.exit 0:AX)=.fN v:=h;cases hh) (fun v h=>by have hh:(.ret:AX)=.fN v:=h;cases hh) fuel
def TG {β:Type}:dK β:=fun k s K=>if Nat.beq k 1 then aBk (fX.lay []) iB (i7.lay []) 239 yK s K else none
theorem XL {β:Type}:aC (bY 4) (TG (β:=β)) (aJ AP):=aC.is [(1,rC)] (by kernel_rfl) (aC.cons (fun s K z h=>YW aGr h) (aC.nil))
def l9 (b0:Ty.El aU×Ty.El I×Unit×Unit)(b1:Ty.El (.list I)×Unit)(b2:Unit×Unit)(b3:Ty.El aR×Unit)(b4:List (Ty.El aA)):Option (yJ.El⊕(Int×D5.El)):=(yK (((),(),(),(),(↑b4.length:Int),(0:Int),()),(b0.1,b0.2.1,(),()),(b1.1,()),((),()),(b3.1,()),b4,())).bind fun v1=>Sum.elim (fun v2=>Sum.elim (fun v3=>some (Sum.inl ((),(v3.2.1.1,v3.2.1.2.1,(),()),(v3.2.2.1.1,()),((),()),(v3.2.2.2.2.1.1,()),v3.2.2.2.2.2.1,()))) (fun v4=>none) v2) (fun e=>some (Sum.inr (e.1,((),e.2.2)))) v1
theorem aPK (x:D4.El):aIT (bY 4) tK 239 D4 yJ D5 [] (cB (bY 4) tK) TG Tryz.f179 AP x=l9 x.2.1 x.2.2.1 x.2.2.2.1 x.2.2.2.2.1 x.2.2.2.2.2.1:=by kernel_rfl
theorem aJM:YX.Ok CT.P 179 ⟨239,4,D4,yJ,D5,fun x=>l9 x.2.1 x.2.2.1 x.2.2.2.1 x.2.2.2.2.1 x.2.2.2.2.2.1⟩:=
 YY (C:=bY 4) (cN:=[]) (aY 4) n8 (eZ (aY 4) n8) aJL aJK XL aPK
abbrev aUK:aF:=⟨1,[(0,.eG 179 [0,1,2])],[.var 51 [.data aU,.data I,.own aA 4],.var 23 [.data (.list I)],.var 199 [.kV 135 [3]],.var 140 [.data aR],.row 68 aA],fun s=>[iA s 0 0,iA s 0 1,iA s 0 2,aBm s (iA s 0 2) 0,fO s (iA s 0 0) 3]⟩
abbrev ZO:aF:=⟨1,[(0,.data I)],[.var 51 [.data aU,.data I,.own aA 4],.var 23 [.data (.list I)],.var 199 [.kV 135 [3]],.var 140 [.data aR],.row 68 aA],fun s=>[0,1,2,3,fO s 0 3]⟩
def n9 (b0:Ty.El aU×Ty.El I×Unit×Unit)(b1:Ty.El (.list I)×Unit)(b2:Unit×Unit)(b3:Ty.El aR×Unit)(b4:List (Ty.El aA)):Option ZO.El:=(l9 b0 b1 b2 b3 b4).bind fun y=>Sum.elim (fun y=>some ((0,()),y.2)) (fun e=>some ((e.1,()),e.2.2)) y
def aZP:aW:=.dV 178 [179] ⟨4,[],aUK,ZO,fun x=>n9 x.2.1 x.2.2.1 x.2.2.2.1 x.2.2.2.2.1 x.2.2.2.2.2.1⟩
theorem aZQ:aZP.Ok CT.P:=aW.mZ (by
 refine aMT (is:=[0,1,2]) (F2:=fun x=>n9 x.2.1 x.2.2.1 x.2.2.2.1 x.2.2.2.2.1 x.2.2.2.2.2.1) (fun x b=>rfl) ((),(),(),()) (fun x y h=>?_) aJM;have h:n9 x.2.1 x.2.2.1 x.2.2.2.1 x.2.2.2.2.1 x.2.2.2.2.2.1=some y:=h;unfold n9 at h;obtain⟨z,hz,h⟩:=aXE.1 h;cases z with
 | inl z=>cases h;exact .inl ⟨hz,rfl⟩
 | inr e=>cases h;exact .inr ⟨e.1,hz,rfl⟩)
abbrev aPL:aF:=⟨2,[(0,.ptr 0),(1,.kV 135 [0])],[.var 140 [.data aR]],fun s=>[aG s 0]⟩
abbrev pY:aF:=⟨3,[(0,.data aD),(1,.data I),(2,.data I)],[.var 140 [.data aR]],fun _=>[0]⟩
def pZ (b0:Ty.El aR×Unit):Option pY.El:=(aPC b0.1.1 b0.1.2.1.2.1).bind fun v2=>bif v2.2.1 != (0:Int) then some ((b0.1.1,(0:Int),v2.2.1,()),(b0.1,()),()) else(vV b0.1.1.2.2).bind fun v4=>(n9 (b0.1.1.1,b0.1.1.2.1,(),()) (v2.1,()) ((),()) (b0.1,()) v4).bind fun v6=>some (((v6.2.1.1,v6.2.1.2.1,v6.2.2.2.2.2.1),(0:Int),v6.1.1,()),(v6.2.2.2.2.1.1,()),())
def aUL:aW:=.dV 134 [135] ⟨1,[],aPL,pY,fun x=>pZ x.2.1⟩
theorem aUM:aUL.Ok CT.P:=BV (C:=(bY 1)) (aY 1) (tb3 bB2 aCs aZQ) [.jX 0 aD] Tryz.f134 (by kernel_rfl) fun x=>by kernel_rfl
def AQ:Code:=Tryz.f179.body.getD .skip
theorem aJN:Tryz.f179.body=some AQ:=by kernel_rfl
theorem aJO:CT.P.funcs[179]?=some Tryz.f179:=by kernel_rfl
abbrev D6:aF:=⟨3,[(0,.ptr 0),(1,.ptr 1),(2,.ptr 2)],[.var 51 [.data aU,.data I,.own aA 4],.var 23 [.data (.list I)],.var 199 [.kV 141 [3]],.var 140 [.data aR],.row 68 aA],fun s=>[aG s 0,aG s 1,aG s 2,aBm s (aG s 2) 0,dL s 0 3]⟩
abbrev yL:aF:=⟨0,[],[.var 51 [.data aU,.data I,.own aA 4],.var 23 [.data (.list I)],.var 199 [.kV 141 [3]],.var 140 [.data aR],.row 68 aA],fun s=>[0,1,2,3,fO s 0 3]⟩
abbrev D7:aF:=⟨0,[],[.var 51 [.data aU,.data I,.own aA 4],.var 23 [.data (.list I)],.var 199 [.kV 141 [3]],.var 140 [.data aR],.row 68 aA],fun s=>[0,1,2,3,fO s 0 3]⟩
abbrev jA:aF:=⟨37,[],[.var 51 [.data aU,.data I,.own aA 4],.var 23 [.data (.list I)],.var 199 [.kV 141 [3]],.var 140 [.data aR],.row 68 aA],fun s=>[0,1,2,3,fO s 0 3]⟩
def tL:Tb:=cC iL iM [aTM,aUl,aR9]
theorem oA:tL.Ok CT.P:=aQ (⟨aZp,a56,aO4,trivial⟩)
def rD:Code:=aX AQ 1
abbrev fY:aF:=⟨37,[(0,.ptr 0),(1,.ptr 1),(2,.ptr 2),(6,.own aA 4),(7,.data I),(8,.data I)],[.var 51 [.data aU,.data I,.own aA 4],.var 23 [.data (.list I)],.var 199 [.kV 141 [3]],.var 140 [.data aR],.row 68 aA],fun s=>[0,1,2,3,fO s 0 3]⟩
abbrev wE:aF:=⟨37,[],[.var 51 [.data aU,.data I,.own aA 4],.var 23 [.data (.list I)],.var 199 [.kV 141 [3]],.var 140 [.data aR],.row 68 aA],fun s=>[0,1,2,3,fO s 0 3]⟩
abbrev wF:aF:=l0 37
def iC:=ex 4 0 wE wF [] []
def CG {β:Type}:dK β:=fun _ _ _=>none
theorem J7 {β:Type}:aC (bY 4) (CG (β:=β)) (aJ rD):=aC.is [] (by kernel_rfl) (aC.nil)
def g8 (r7:Ty.El I)(r8:Ty.El I)(b0:Ty.El aU×Ty.El I×Unit×Unit)(b1:Ty.El (.list I)×Unit)(b2:Unit×Unit)(b3:Ty.El aR×Unit)(b4:List (Ty.El aA)):Option (fY.El⊕((wE.El⊕wF.El)⊕(Int×jA.El))):=bif decide (r8<r7) then bif decide ((0:Int)≤r8∧r8<(↑b4.length:Int)) then(RV b1.1 (b4.getD (Int.toNat r8) aA.dflt).1).bind fun v2=>bif !v2.1 then some (Sum.inl (((),(),(),(),r7,IntKind.i64.wrap (r8+(1:Int)),()),(b0.1,b0.2.1,(),()),(b1.1,()),((),()),(b3.1,()),b4,())) else(J4 b3.1 (b4.getD (Int.toNat r8) aA.dflt).2.2.1.2.2.2.1).bind fun v4=>Sum.elim (fun v6=>(l5 ((b4.getD (Int.toNat r8) aA.dflt).2.2.1.1,(b4.getD (Int.toNat r8) aA.dflt).2.2.1.2.1,(b4.getD (Int.toNat r8) aA.dflt).2.2.1.2.2.1,v6.1,(b4.getD (Int.toNat r8) aA.dflt).2.2.1.2.2.2.2)).bind fun v8=>bif !v8.1 then some (Sum.inr (Sum.inr ((3:Int),((),(b0.1,b0.2.1,(),()),(b1.1,()),((),()),(b3.1,()),b4,())))) else bif decide ((0:Int)≤r8∧r8<(↑b4.length:Int)) then some (Sum.inl (((),(),(),(),r7,IntKind.i64.wrap (r8+(1:Int)),()),(b0.1,b0.2.1,(),()),(b1.1,()),((),()),(b3.1,()),b4.set (Int.toNat r8) ((b4.getD (Int.toNat r8) aA.dflt).1,(b4.getD (Int.toNat r8) aA.dflt).2.1,((b4.getD (Int.toNat r8) aA.dflt).2.2.1.1,(b4.getD (Int.toNat r8) aA.dflt).2.2.1.2.1,(b4.getD (Int.toNat r8) aA.dflt).2.2.1.2.2.1,v6.1,(b4.getD (Int.toNat r8) aA.dflt).2.2.1.2.2.2.2),(b4.getD (Int.toNat r8) aA.dflt).2.2.2),())) else none) (fun v9=>some (Sum.inr (Sum.inr (v9,((),(b0.1,b0.2.1,(),()),(b1.1,()),((),()),(b3.1,()),b4,()))))) v4 else none else some (Sum.inr (Sum.inl (Sum.inl ((),(b0.1,b0.2.1,(),()),(b1.1,()),((),()),(b3.1,()),b4,()))))
theorem aGs (x:fY.El):aV (bY 4) tL (cB (bY 4) tL) CG rD (fY.enc x) (QD (fY.lay []) iC (jA.lay []) 239)=g8 x.1.2.2.2.2.1 x.1.2.2.2.2.2.1 x.2.1 x.2.2.1 x.2.2.2.1 x.2.2.2.2.1 x.2.2.2.2.2.1:=by kernel_rfl
def yM:fY.El→Option ((wE.El⊕wF.El)⊕(Int×jA.El)):=aH (fun x=>g8 x.1.2.2.2.2.1 x.1.2.2.2.2.2.1 x.2.1 x.2.2.1 x.2.2.2.1 x.2.2.2.2.1 x.2.2.2.2.2.1) fuel
theorem aGt:∀ x y,yM x=some y→CL (bY 4) rD (fY.enc x) (Sum.elim (fun ab=>Sum.elim (fun _=>iC.xa) (fun _=>iC.xb) ab) (fun e=>.fN (cT 239 e.1)) y) (Sum.elim (fun ab=>Sum.elim iC.la.enc iC.lb.enc ab) (fun e=>((jA.lay []):Lay 4 _).enc e.2) y):=
 DH (L:=fY.lay []) (E:=iC) (M:=jA.lay []) (aY 4) oA (eZ (aY 4) oA) J7 aGs rfl rfl (fun v h=>by have hh:(.exit 0:AX)=.fN v:=h;cases hh) (fun v h=>by have hh:(.ret:AX)=.fN v:=h;cases hh) fuel
def TH {β:Type}:dK β:=fun k s K=>if Nat.beq k 1 then aBk (fY.lay []) iC (jA.lay []) 239 yM s K else none
theorem XM {β:Type}:aC (bY 4) (TH (β:=β)) (aJ AQ):=aC.is [(1,rD)] (by kernel_rfl) (aC.cons (fun s K z h=>YW aGt h) (aC.nil))
def mA (b0:Ty.El aU×Ty.El I×Unit×Unit)(b1:Ty.El (.list I)×Unit)(b2:Unit×Unit)(b3:Ty.El aR×Unit)(b4:List (Ty.El aA)):Option (yL.El⊕(Int×D7.El)):=(yM (((),(),(),(),(↑b4.length:Int),(0:Int),()),(b0.1,b0.2.1,(),()),(b1.1,()),((),()),(b3.1,()),b4,())).bind fun v1=>Sum.elim (fun v2=>Sum.elim (fun v3=>some (Sum.inl ((),(v3.2.1.1,v3.2.1.2.1,(),()),(v3.2.2.1.1,()),((),()),(v3.2.2.2.2.1.1,()),v3.2.2.2.2.2.1,()))) (fun v4=>none) v2) (fun e=>some (Sum.inr (e.1,((),e.2.2)))) v1
theorem aPM (x:D6.El):aIT (bY 4) tL 239 D6 yL D7 [] (cB (bY 4) tL) TH Tryz.f179 AQ x=mA x.2.1 x.2.2.1 x.2.2.2.1 x.2.2.2.2.1 x.2.2.2.2.2.1:=by kernel_rfl
theorem aJP:YX.Ok CT.P 179 ⟨239,4,D6,yL,D7,fun x=>mA x.2.1 x.2.2.1 x.2.2.2.1 x.2.2.2.2.1 x.2.2.2.2.2.1⟩:=
 YY (C:=bY 4) (cN:=[]) (aY 4) oA (eZ (aY 4) oA) aJO aJN XM aPM
abbrev aUN:aF:=⟨1,[(0,.eG 179 [0,1,2])],[.var 51 [.data aU,.data I,.own aA 4],.var 23 [.data (.list I)],.var 199 [.kV 141 [3]],.var 140 [.data aR],.row 68 aA],fun s=>[iA s 0 0,iA s 0 1,iA s 0 2,aBm s (iA s 0 2) 0,fO s (iA s 0 0) 3]⟩
abbrev ZP:aF:=⟨1,[(0,.data I)],[.var 51 [.data aU,.data I,.own aA 4],.var 23 [.data (.list I)],.var 199 [.kV 141 [3]],.var 140 [.data aR],.row 68 aA],fun s=>[0,1,2,3,fO s 0 3]⟩
def oB (b0:Ty.El aU×Ty.El I×Unit×Unit)(b1:Ty.El (.list I)×Unit)(b2:Unit×Unit)(b3:Ty.El aR×Unit)(b4:List (Ty.El aA)):Option ZP.El:=(mA b0 b1 b2 b3 b4).bind fun y=>Sum.elim (fun y=>some ((0,()),y.2)) (fun e=>some ((e.1,()),e.2.2)) y
def aZR:aW:=.dV 178 [179] ⟨4,[],aUN,ZP,fun x=>oB x.2.1 x.2.2.1 x.2.2.2.1 x.2.2.2.2.1 x.2.2.2.2.2.1⟩
theorem aZS:aZR.Ok CT.P:=aW.mZ (by
 refine aMT (is:=[0,1,2]) (F2:=fun x=>oB x.2.1 x.2.2.1 x.2.2.2.1 x.2.2.2.2.1 x.2.2.2.2.2.1) (fun x b=>rfl) ((),(),(),()) (fun x y h=>?_) aJP;have h:oB x.2.1 x.2.2.1 x.2.2.2.1 x.2.2.2.2.1 x.2.2.2.2.2.1=some y:=h;unfold oB at h;obtain⟨z,hz,h⟩:=aXE.1 h;cases z with
 | inl z=>cases h;exact .inl ⟨hz,rfl⟩
 | inr e=>cases h;exact .inr ⟨e.1,hz,rfl⟩)
abbrev aPN:aF:=⟨2,[(0,.ptr 0),(1,.kV 141 [0])],[.var 140 [.data aR]],fun s=>[aG s 0]⟩
abbrev p7:aF:=⟨3,[(0,.data aD),(1,.data I),(2,.data I)],[.var 140 [.data aR]],fun _=>[0]⟩
def p8 (b0:Ty.El aR×Unit):Option p7.El:=(aPC b0.1.1 b0.1.2.1.2.1).bind fun v2=>bif v2.2.1 != (0:Int) then some ((b0.1.1,(0:Int),v2.2.1,()),(b0.1,()),()) else(vV b0.1.1.2.2).bind fun v4=>(oB (b0.1.1.1,b0.1.1.2.1,(),()) (v2.1,()) ((),()) (b0.1,()) v4).bind fun v6=>some (((v6.2.1.1,v6.2.1.2.1,v6.2.2.2.2.2.1),(0:Int),v6.1.1,()),(v6.2.2.2.2.1.1,()),())
def aUO:aW:=.dV 134 [141] ⟨1,[],aPN,p7,fun x=>p8 x.2.1⟩
theorem aUP:aUO.Ok CT.P:=BV (C:=(bY 1)) (aY 1) (tb3 bB2 aCs aZS) [.jX 0 aD] Tryz.f134 (by kernel_rfl) fun x=>by kernel_rfl
end Go.DI.S
end
