import Derived.Test.YtbjldjihpekhaaaGreatIa
import Derived.Test.YtbjldjihpekhaaaGreatSa
import Derived.Test.YtbjldjihpekhaaaGreatKa
import Derived.Shelf.Spec.SlicesGrow
import Derived.Laws.AppendOwn
/- Floats; slices.Grow at whole numbers. No conditions. -/
set_option linter.unusedSimpArgs false
set_option linter.unusedVariables false
set_option maxRecDepth 100000
set_option maxHeartbeats 0
noncomputable section
namespace Go.DI.S
open Go.Proofs
def aFW (a1:Ty.El tF):Option (aS [tF]):=some ((aAI IntKind.u64 (↑a1:Int) (9223372036854775808:Int)).toNat,())
def bBT:aW:=.fn 97 [] ⟨[.ty tF],[tF],fun x=>aFW x.1,false⟩
theorem a2G:bBT.Ok CT.P:=fn0 aL (JB bFF bAg) Tryz.f97 (by kernel_rfl) fun x=>by kernel_rfl
def NU (a1:Ty.El tF):Option (aS [.bool]):=some (fNe FloatKind.f64 a1 a1,())
def aZh:aW:=.fn 33 [] ⟨[.ty tF],[.bool],fun x=>NU x.1,false⟩
theorem aZi:aZh.Ok CT.P:=fn0 aL zN Tryz.f33 (by kernel_rfl) fun x=>by kernel_rfl
def NW (a1:Ty.El tF)(a2:Ty.El I):Option (aS [.bool]):=bif a2==(0:Int) then(aFW a1).bind fun v2=>some (fGt FloatKind.f64 v2.1 (9218868437227405311:Nat),()) else bif decide (a2<(0:Int)) then some (fGt FloatKind.f64 (a3K FloatKind.f64 a1) (9218868437227405311:Nat),()) else some (fGt FloatKind.f64 a1 (9218868437227405311:Nat),())
def aZj:aW:=.fn 34 [] ⟨[.ty tF,.ty I],[.bool],fun x=>NW x.1 x.2.1,false⟩
theorem aZk:aZj.Ok CT.P:=fn0 aL (B8 a2G) Tryz.f34 (by kernel_rfl) fun x=>by kernel_rfl
def ZA (a1:Ty.El tF):Option (aS [.bool]):=some (decide (IntKind.i64.wrap (↑a1:Int)<(0:Int)),())
def aPv:aW:=.fn 218 [] ⟨[.ty tF],[.bool],fun x=>ZA x.1,false⟩
theorem aPw:aPv.Ok CT.P:=fn0 aL (B8 bAg) Tryz.f218 (by kernel_rfl) fun x=>by kernel_rfl
def AF (a1:Ty.El tF):Option (aS [I]):=(NU a1).bind fun v2=>bif v2.1 then some ((1:Int),()) else(NW a1 (1:Int)).bind fun v4=>bif v4.1 then some ((2:Int),()) else(NW a1 (-1:Int)).bind fun v6=>bif v6.1 then some ((3:Int),()) else bif fEq FloatKind.f64 a1 (0:Nat) then(ZA a1).bind fun v8=>bif v8.1 then some ((5:Int),()) else bif fEq FloatKind.f64 a1 (0:Nat) then some ((4:Int),()) else(aFW a1).bind fun v10=>bif fLt FloatKind.f64 v10.1 (4503599627370496:Nat) then some ((6:Int),()) else some ((7:Int),()) else bif fEq FloatKind.f64 a1 (0:Nat) then some ((4:Int),()) else(aFW a1).bind fun v12=>bif fLt FloatKind.f64 v12.1 (4503599627370496:Nat) then some ((6:Int),()) else some ((7:Int),())
def aZl:aW:=.fn 170 [] ⟨[.ty tF],[I],fun x=>AF x.1,false⟩
theorem aZm:aZl.Ok CT.P:=fn0 aL (tb4 aZi aZk aPw a2G) Tryz.f170 (by kernel_rfl) fun x=>by kernel_rfl
def k8 (a1:Ty.El tF):Option (aS [I,I]):=(AF a1).bind fun v2=>bif v2.1==(1:Int) then some ((0:Int),(1:Int),()) else bif v2.1==(2:Int) then some ((0:Int),(2:Int),()) else bif v2.1==(3:Int) then some ((0:Int),(2:Int),()) else bif fOk Go.BinOp.mul FloatKind.f64 a1 (4751297606875873280:Nat) then bif aR6 (EQ Go.BinOp.mul FloatKind.f64 a1 (4751297606875873280:Nat)) then bif fGe FloatKind.f64 (aFj (EQ Go.BinOp.mul FloatKind.f64 a1 (4751297606875873280:Nat))) (4890909195324358656:Nat) then some ((0:Int),(3:Int),()) else bif fLt FloatKind.f64 (aFj (EQ Go.BinOp.mul FloatKind.f64 a1 (4751297606875873280:Nat))) (14114281232179134464:Nat) then some ((0:Int),(3:Int),()) else bif CQ FloatKind.f64 (aFj (EQ Go.BinOp.mul FloatKind.f64 a1 (4751297606875873280:Nat))) IntKind.i64 then some (aRd FloatKind.f64 (aFj (EQ Go.BinOp.mul FloatKind.f64 a1 (4751297606875873280:Nat))),(0:Int),()) else none else none else none
def a2H:aW:=.fn 130 [] ⟨[.ty tF],[I,I],fun x=>k8 x.1,false⟩
theorem bBU:a2H.Ok CT.P:=fn0 aL (JB aZm bFG) Tryz.f130 (by kernel_rfl) fun x=>by kernel_rfl
abbrev aPx:aF:=⟨1,[(0,.BU 0 4)],[.var 140 [.data aR]],fun s=>[aG s 0]⟩
abbrev DU:aF:=⟨1,[(0,.PT 1 1 5)],[.var 140 [.data aR],.var 113 [.BU 0 8,.BU 0 9,.BU 0 10,.BU 0 11,.BU 0 12]],fun s=>[0,aG s 0]⟩
def m4 (b0:Ty.El aR×Unit):Option DU.El:=some (((),()),(b0.1,()),((),(),(),(),(),()),())
def aFX:aW:=.dV 47 [] ⟨1,[],aPx,DU,fun x=>m4 x.2.1⟩
theorem aTF:aFX.Ok CT.P:=BV (C:=(bY 1)) (aY 1) zN [] Tryz.f47 (by kernel_rfl) fun x=>by kernel_rfl
def aFY (a1:Unit)(a2:Ty.El I):Option (List (Ty.El I)):=bif decide (a2<(0:Int)) then none else bif decide (IntKind.i64.wrap (a2-(0:Int))>(0:Int)) then none else some []
def aTG:aW:=.own 229 [] ⟨[.nil,.ty I],3,I,fun x=>aFY x.1 x.2.1⟩
theorem aTH:aTG.Ok CT.P:=bAb aL zN Tryz.f229 (by kernel_rfl) fun x=>by kernel_rfl
theorem aPy {R:Nat→Prop}{ρ:Nm}{w w':World}{l v l2:List Int}{nb cap:Nat}{N:BN}{h0:AH}(hr:Rel R ρ h0 w)
  (h1:w'.os=w.os) (h2:w'.tape=w.tape) (h3:w'.output=w.output) (h4:w.heap.size≤w'.heap.size) (hdr:w.drawn≤w'.drawn) (hkeep:∀ k,k<w.heap.size→k≠nb→w'.heap[k]?=w.heap[k]?)
  (hnb:(Lv ρ h0 nb∧∃ a1 t1,w.heap[nb]?=some (.cells a1 t1 (0,0)))∨w.heap.size≤nb) {vR:Array Value} (hb2:w'.heap[nb]?=some (.cells vR 3 (0,0))) (o9:l2.length*1≤vR.size) (hcells:aK w R ρ (I.flat l2) (vR.toList.take (l2.length*1))) (hlc:l2.length≤cap) (hcap:cap*1≤vR.size) :
  ∃ R' ρ',aI w' R' ρ' (.bL I 0) (.slice (some ⟨nb,0,none⟩) l2.length cap)∧Rel R' ρ' [some (.row 3 I l2)] w'∧eF 0 R ρ h0 w R' ρ' [some (.row 3 I l2)] w':=by
 have bJ:¬R nb:=by
  intro hR;rcases hnb with⟨⟨i,blk,M,hi,hn,hg⟩,_⟩ | h
  ·exact hr.qU hR ⟨i,blk,M,hi,hn,hg⟩
  ·have:=hr.ro nb hR;omega
 have hB:dY w' R ρ nb ⟨vR.size,l2.length,false⟩ (.row 3 I l2):=j8 ⟨vR,hb2,rfl,by rw [I.cH];exact o9,by
  rw [I.cH];exact hcells.mono (fun k hk=>hkeep k (hr.ro k hk) (fun e=>bJ (e▸hk))) (fun _ h=>h) (Nm.le_refl _)⟩ rfl
 refine⟨R,nm0 nb ⟨vR.size,l2.length,false⟩,.bL (N:=⟨vR.size,l2.length,false⟩) rfl rfl hlc hcap,aB3 (RD hB) (.inl ⟨rfl,bJ⟩) (fun c hc=>a1r (hr.ro c hc) h4),
  ⟨h1,h2,h3,h4,fun _ h=>h,fun c hc hnl=>hkeep c hc (fun e=>?_),fun c hl=>?_,fun _ h=>.inl h,hdr,fun i bn hi=>absurd hi (a9x _)⟩⟩
 ·subst e;rcases hnb with⟨h,_⟩ | h
  ·exact hnl h
  ·omega
 ·rw [(aJc hl).1];rcases hnb with⟨h,_⟩ | h
  ·exact .inl h
  ·exact .inr h
def FZ:Go.Shelf.Ren:=⟨fun | 4=>229 | n=>n,fun | 22=>23 | 25=>3 | n=>n,fun n=>n⟩
theorem aPz:Lays8.n4 Tryz.prog FZ:={
 mixed:=by kernel_rfl,
 f4:=⟨ "slices.Grow[[]int,int]",by kernel_rfl,Tryz.func229.trans (aKR some (by kernel_rfl))⟩,
 t0:=Tryz.underlying0,a0:=Tryz.isAgg0,z0:=Tryz.sizeOf0,v0:=Tryz.zeroValue0,
 t3:=Tryz.underlying3,a3:=Tryz.isAgg3,z3:=Tryz.sizeOf3,v3:=Tryz.zeroValue3,
 t4:=Tryz.underlying4,a4:=Tryz.isAgg4,z4:=Tryz.sizeOf4,v4:=Tryz.zeroValue4,
 t9:=Tryz.underlying9,a9:=Tryz.isAgg9,z9:=Tryz.sizeOf9,v9:=Tryz.zeroValue9,
 t20:=Tryz.underlying20,a20:=Tryz.isAgg20,z20:=Tryz.sizeOf20,v20:=Tryz.zeroValue20,
 t22:=Tryz.underlying23,a22:=Tryz.isAgg23,z22:=Tryz.sizeOf23,v22:=Tryz.zeroValue23 }
theorem aTI {p:Nat}{R R':Nat→Prop}{ρ ρ':Nm}{w w':World}{h':AH}(hr:Rel R ρ [] w)(f:eF p R ρ [] w R' ρ' h' w'):fB R ρ [] w R' ρ' h' w':=
 ⟨f.os,f.tape,f.output,f.size,fun i bn h=>(by rw [hr.dom i (aLj _)] at h;cases h),f.mV,f.keeps,f.cW,f.cZ,aLj _,fun x hx=>absurd hx (a9x _),f.kQ⟩
set_option maxHeartbeats 1000000 in
theorem aTJ (n:Nat)(h0:0<n)(hn:n≤1000000):AC CT.P 229 [.eY,.int .i64 n] [] (.ret (.bL I 0)) [some (.row 3 I [])]:=by
 intro R ρ w vs hr hvs;obtain⟨u0,us,hu,k1,k2⟩:=hvs.cons_inv;obtain⟨u1,us1,rfl,k3,k4⟩:=k2.cons_inv;obtain rfl:=k4.bE;have hv:vs=#[u0,u1]:=aRl.1 (by simpa using hu);subst hv;cases k1;cases k3;obtain⟨i0,z,hi0,hz0,hs0,hb0,hzs⟩:∃ i0 z,Tryz.prog.info? 3=some i0∧i0.zero=some z∧i0.size=1∧i0.bytes=8∧z.cells.size=1:=by
  have h:(Tryz.prog.info? 3).bind (fun i=>i.zero.map fun z=>(i.size,i.bytes,z.cells.size))=some (1,8,1):=by kernel_rfl
  obtain⟨i0,hi,h⟩:=aXE.1 h;obtain⟨z,hz,h⟩:=aPV.1 h;simp only [aKN] at h;exact⟨i0,z,hi,hz,h.1,h.2.1,h.2.2⟩
 have hs:=Any8.slices_Grow_grow aPz i0 z hi0 hz0 (by omega) none 0 0 n [] w (aKQ _) (by omega) (by rw [hb0];omega) (by omega) (by simp) (fun _=>rfl) (fun a h=>by cases h);refine hs.mono ?_;rintro e w' ⟨rfl,rfl⟩;have hge:=grownCap_ge w (0+n) 0 3;generalize hA:([]:List Value).toArray++Builtin.zeroCells z.cells (0+n-0)++Builtin.zeroCells z.cells (grownCap w (0+n) 0 (FZ.t 25)-(0+n))=A;have hsz:A.size=grownCap w (0+n) 0 3*1:=by
  rw [← hA];simp only [Array.size_append,size_zeroCells,hzs,List.size_toArray,List.length_nil];show 0+(0+n-0)*1+(grownCap w (0+n) 0 3-(0+n))*1=_;omega
 have hh:(w.drew.alloc (.cells A (FZ.t 25))).heap=w.heap.push (.cells A 3):=rfl;obtain⟨R',ρ',q1,q2,q3⟩:=aPy (l:=[]) (v:=[]) (l2:=[]) (h0:=[]) (nb:=w.heap.size) (cap:=grownCap w (0+n) 0 3)
  (w':=w.drew.alloc (.cells A (FZ.t 25))) (N:=⟨0,0,false⟩)
  (vR:=A) hr rfl rfl rfl (by rw [hh,Array.size_push];omega) (a9p _) (fun k hk hne=>by
   rw [hh,Array.getElem?_push,aJn (Nat.ne_of_lt hk)]) (.inr (aKQ _)) (by rw [hh,Array.getElem?_push,aJb rfl]) (aLj _) (by
   show aK w R ρ [] (A.toList.take 0);rw [List.take_zero];exact .nil) (aLj _) (by rw [hsz];exact aKQ _)
 exact⟨R',ρ',_,⟨rfl,q1⟩,q2,aTI hr q3⟩
def AJ (a1:Unit)(a2:Ty.El I):Option (List (Ty.El I)):=bif decide ((0:Int)<a2)&&decide (a2≤(1000000:Int)) then some [] else aFY a1 a2
def aMk:aW:=.own 229 [] ⟨[.nil,.ty I],3,I,fun x=>AJ x.1 x.2.1⟩
theorem aZn:aMk.Ok CT.P:=by
 intro x y hxy;obtain⟨u,(n:Int),x2⟩:=x;have hxy:AJ u n=some y:=hxy;unfold AJ at hxy;cases hb:decide ((0:Int)<n)&&decide (n≤(1000000:Int)) with
 | false=>
  rw [hb] at hxy;exact aTH (u,n,x2) y hxy
 | true=>
  rw [hb] at hxy;have hy:y=[]:=(Option.some.inj hxy).symm;subst hy;simp only [aKS,decide_eq_true_eq] at hb;obtain⟨m,rfl⟩:=Int.eq_ofNat_of_zero_le (Int.le_of_lt hb.1);exact aTJ m (by omega) (by omega)
end Go.DI.S
end
