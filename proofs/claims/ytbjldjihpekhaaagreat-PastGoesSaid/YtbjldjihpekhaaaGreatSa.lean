import Derived.Test.YtbjldjihpekhaaaGreatDie
import Derived.Test.YtbjldjihpekhaaaGreatProg
import Derived.KernelRfl
import Derived.Laws.Externs
/- The functions of the program below scenes, each told by a function on data. No conditions. -/
set_option linter.unusedSimpArgs false
set_option linter.unusedVariables false
set_option maxRecDepth 100000
set_option maxHeartbeats 0
noncomputable section
namespace Go.DI.S
open Go.Proofs
def eqT:TypeId→Option (List (TypeId×Nat))
 | 48=>some [(46,0),(46,1)]
 | 64=>some [(3,0),(48,1),(46,3),(48,4),(48,6)]
 | 66=>some [(3,0),(3,1),(46,2)]
 | 91=>some [(3,0),(9,1),(9,2)]
 | _=>none
def aBl:List Nat:=[0,1,95,96,171,256,329]
def bAd (g:Nat):Bool:=Nat.blt g 340&&!(aBl.any (Nat.beq g))
def bY (p:Nat):dI:=⟨Tryz.prog,bAd,eqT,p⟩
abbrev CT:dI:=bY 0
abbrev I:=Ty.int .i64
abbrev tF:=Ty.gU .f64
abbrev aU:Ty:=.pair I I
abbrev aM:Ty:=.pair I (.pair aU (.pair I (.pair aU aU)))
abbrev aP:Ty:=.pair I (.pair I I)
abbrev aA:Ty:=.pair I (.pair I (.pair aM (.pair aP (.list I))))
abbrev aD:Ty:=.pair aU (.pair I (.list aA))
abbrev bS:Ty:=.pair aU (.pair (.list aM) (.list aP))
abbrev x8:Ty:=.pair aU I
abbrev bX:Ty:=.pair aU aU
abbrev bF:Ty:=.pair I I
abbrev kY:Ty:=.pair I (.pair I (.pair I (.pair I (.pair tF (.pair tF (.pair tF (.pair tF (.pair tF (.pair I (.pair I (.list I)))))))))))
abbrev bAe:Ty:=.pair I (.pair I (.pair I (.pair I I)))
abbrev aR:Ty:=.pair aD (.pair kY bAe)
abbrev fW:=aU.El
abbrev Body:=aM.El
abbrev iF:=aP.El
abbrev Thing:=aA.El
abbrev aZ:=aD.El
abbrev dQ:=bS.El
abbrev jJ:=bF.El
abbrev Order:=kY.El
abbrev bD:Ty:=.pair I (.pair .str .str)
abbrev cA:Ty:=.pair (.list bD) (.pair .bool (.pair aU (.pair aU (.pair I I))))
abbrev fT:Ty:=.pair (.list cA) (.list cA)
abbrev MR:Ty:=.pair I .str
def iL:TypeId→Option Ty
 | 3=>some I
 | 4=>some .bool
 | 5=>some (.int .u8)
 | 48=>some aU
 | 64=>some aM
 | 66=>some aP
 | 68=>some aA
 | 25=>some kY
 | 87=>some cA
 | 91=>some bD
 | 179=>some bF
 | _=>none
def iM:TypeId→Option (Ty×Ty)
 | 228=>some (I,I)
 | 244=>some (I,I)
 | 189=>some (I,.bool)
 | 81=>some (I,.str)
 | _=>none
def aG (s:AS)(t:Nat):Nat:=match s.r[t]? with
 | some (.ptr k _)=>k
 | some (.map k)=>k
 | some (.bL _ k)=>k
 | some (.own _ k _ _)=>k
 | _=>0
def dL (s:AS)(t o:Nat):Nat:=match s.r[t]? with
 | some (.ptr k _)=>match s.h[k]? with
  | some (some (.cells _ cs))=>match cs[o]? with
   | some (.bL _ j)=>j
   | some (.map j)=>j
   | some (.ptr j _)=>j
   | _=>0
  | _=>0
 | _=>0
def fO (s:AS)(k o:Nat):Nat:=match s.h[k]? with
 | some (some (.cells _ cs))=>match cs[o]? with
  | some (.bL _ j)=>j
  | some (.map j)=>j
  | some (.ptr j _)=>j
  | _=>0
 | _=>0
def sH (s:AS)(t:Nat):Nat:=match s.r[t]? with
 | some (.func _ _ (.ptr k _ :: _))=>k
 | _=>0
def aLz (s:AS)(t:Nat):Nat:=fO s (sH s t) 0
def iA (s:AS)(t k:Nat):Nat:=match s.r[t]? with
 | some (.func _ _ eA)=>match eA[k]? with
  | some (.ptr j _)=>j
  | _=>0
 | _=>0
def aBm (s:AS)(k o:Nat):Nat:=match s.h[k]? with
 | some (some (.cells _ cs))=>match cs[o]? with
  | some (.func _ (.ptr j _ :: _) _)=>j
  | _=>0
 | _=>0
def fuel:Nat:=18446744073709551616
def aX (c:Code)(k:Nat):Code:=match (aJ c).find? (fun p=>Nat.beq p.1 k) with
 | some p=>p.2
 | none=>.skip
def aR5 (g:Nat):Bool:=match Tryz.prog.funcs[g]? with
 | some f=>!(f.name == "runtime.NumGoroutine")&&!f.body.isNone
 | none=>false
theorem aIU:(List.range 340).all (fun g=>aBl.any (Nat.beq g)||aR5 g)=true:=by kernel_rfl
theorem eqP:∀ t∈[48,64,66,91],(Tryz.prog.stoodInHeld t=false∧Tryz.prog.eqGuardType Tryz.prog.depth t=false∧Tryz.prog.underlying t=some (.struct (Tryz.prog.fieldsOf t)) ∧
  some (((Tryz.prog.fieldsOf t).toList.filter (fun f=>decide (f.name ≠ "_"))).map (fun f=>(f.type,f.offset)))=eqT t):=by
 intro t ht;simp only [aQL,List.mem_nil_iff,or_false] at ht;rcases ht with rfl | rfl | rfl | rfl
 ·exact⟨by kernel_rfl,by kernel_rfl,by kernel_rfl,by kernel_rfl⟩
 ·exact⟨by kernel_rfl,by kernel_rfl,by kernel_rfl,by kernel_rfl⟩
 ·exact⟨by kernel_rfl,by kernel_rfl,by kernel_rfl,by kernel_rfl⟩
 ·exact⟨by kernel_rfl,by kernel_rfl,by kernel_rfl,by kernel_rfl⟩
theorem aY (p:Nat):(bY p).Ok where
 fn:=by
  intro g hg;have hg:(g<340)∧(aBl.any (Nat.beq g))=false:=by
   have hg:(Nat.blt g 340&&!(aBl.any (Nat.beq g)))=true:=hg;rw [aKS,Nat.blt_eq] at hg;exact⟨hg.1,by simpa only [a1K] using hg.2⟩
  have h:=aQ6.1 aIU g (a9t.2 hg.1);rw [hg.2,Bool.false_or] at h;unfold aR5 at h;show ∃ f,Tryz.prog.funcs[g]?=some f∧_
  split at h
  ·rename_i f hf;refine⟨f,hf,?_⟩;simpa using h
  ·cases h
 eq:=by
  intro t l h;have ht:t∈[48,64,66,91]:=by
   have h:eqT t=some l:=h;unfold eqT at h
   split at h <;> first | (simp;done) | cases h
  obtain⟨h1,h2,h3,h4⟩:=eqP t ht;refine⟨h1,h2,h3,?_⟩;have h:eqT t=some l:=h;rw [h] at h4;exact Option.some.inj h4
 mixed:=by kernel_rfl
theorem aL:CT.Ok:=aY 0
theorem tb {l:List aW}(h:vM CT.P l):(cC iL iM l).Ok CT.P:=aQ h
theorem zN:(cC iL iM []).Ok CT.P:=tb trivial
theorem B8 {a0:aW}(h0:a0.Ok CT.P):(cC iL iM [a0]).Ok CT.P:=tb ⟨h0,trivial⟩
theorem JB {a0 a1:aW}(h0:a0.Ok CT.P)(h1:a1.Ok CT.P):(cC iL iM [a0,a1]).Ok CT.P:=tb ⟨h0,h1,trivial⟩
theorem tb3 {a0 a1 a2:aW}(h0:a0.Ok CT.P)(h1:a1.Ok CT.P)(h2:a2.Ok CT.P):(cC iL iM [a0,a1,a2]).Ok CT.P:=tb ⟨h0,h1,h2,trivial⟩
theorem tb4 {a0 a1 a2 a3:aW}(h0:a0.Ok CT.P)(h1:a1.Ok CT.P)(h2:a2.Ok CT.P)(h3:a3.Ok CT.P):(cC iL iM [a0,a1,a2,a3]).Ok CT.P:=tb ⟨h0,h1,h2,h3,trivial⟩
theorem tb5 {a0 a1 a2 a3 a4:aW}(h0:a0.Ok CT.P)(h1:a1.Ok CT.P)(h2:a2.Ok CT.P)(h3:a3.Ok CT.P)(h4:a4.Ok CT.P):(cC iL iM [a0,a1,a2,a3,a4]).Ok CT.P:=tb ⟨h0,h1,h2,h3,h4,trivial⟩
theorem tb6 {a0 a1 a2 a3 a4 a5:aW}(h0:a0.Ok CT.P)(h1:a1.Ok CT.P)(h2:a2.Ok CT.P)(h3:a3.Ok CT.P)(h4:a4.Ok CT.P)(h5:a5.Ok CT.P):(cC iL iM [a0,a1,a2,a3,a4,a5]).Ok CT.P:=tb ⟨h0,h1,h2,h3,h4,h5,trivial⟩
theorem tb7 {a0 a1 a2 a3 a4 a5 a6:aW}(h0:a0.Ok CT.P)(h1:a1.Ok CT.P)(h2:a2.Ok CT.P)(h3:a3.Ok CT.P)(h4:a4.Ok CT.P)(h5:a5.Ok CT.P)(h6:a6.Ok CT.P):(cC iL iM [a0,a1,a2,a3,a4,a5,a6]).Ok CT.P:=tb ⟨h0,h1,h2,h3,h4,h5,h6,trivial⟩
theorem bFw {a0 a1 a2 a3 a4 a5 a6 a7 a8 a9:aW}(h0:a0.Ok CT.P)(h1:a1.Ok CT.P)(h2:a2.Ok CT.P)(h3:a3.Ok CT.P)(h4:a4.Ok CT.P)(h5:a5.Ok CT.P)(h6:a6.Ok CT.P)(h7:a7.Ok CT.P)(h8:a8.Ok CT.P)(h9:a9.Ok CT.P):(cC iL iM [a0,a1,a2,a3,a4,a5,a6,a7,a8,a9]).Ok CT.P:=tb ⟨h0,h1,h2,h3,h4,h5,h6,h7,h8,h9,trivial⟩
theorem bFx {a0 a1 a2 a3 a4 a5 a6 a7 a8 a9 a10:aW}(h0:a0.Ok CT.P)(h1:a1.Ok CT.P)(h2:a2.Ok CT.P)(h3:a3.Ok CT.P)(h4:a4.Ok CT.P)(h5:a5.Ok CT.P)(h6:a6.Ok CT.P)(h7:a7.Ok CT.P)(h8:a8.Ok CT.P)(h9:a9.Ok CT.P)(h10:a10.Ok CT.P):(cC iL iM [a0,a1,a2,a3,a4,a5,a6,a7,a8,a9,a10]).Ok CT.P:=tb ⟨h0,h1,h2,h3,h4,h5,h6,h7,h8,h9,h10,trivial⟩
theorem bFy {a0 a1 a2 a3 a4 a5 a6 a7 a8 a9 a10 a11:aW}(h0:a0.Ok CT.P)(h1:a1.Ok CT.P)(h2:a2.Ok CT.P)(h3:a3.Ok CT.P)(h4:a4.Ok CT.P)(h5:a5.Ok CT.P)(h6:a6.Ok CT.P)(h7:a7.Ok CT.P)(h8:a8.Ok CT.P)(h9:a9.Ok CT.P)(h10:a10.Ok CT.P)(h11:a11.Ok CT.P):(cC iL iM [a0,a1,a2,a3,a4,a5,a6,a7,a8,a9,a10,a11]).Ok CT.P:=tb ⟨h0,h1,h2,h3,h4,h5,h6,h7,h8,h9,h10,h11,trivial⟩
def fbA {β:Type}(args:List AV)(K:AV→Option β):Option β:=match args with
 | [.int .u64 n]=>K (.gU .f64 n.toNat)
 | _=>none
def bfA {β:Type}(args:List AV)(K:AV→Option β):Option β:=match args with
 | [.gU .f64 b]=>K (.int .u64 b)
 | _=>none
def aR6 (b:Nat):Bool:=match FloatKind.f64.decode b with
 | .nan _ _=>false
 | _=>true
def aFj (b:Nat):Nat:=FloatKind.f64.encode ((FloatKind.f64.decode b).integral .even)
def rdA {β:Type}(args:List AV)(K:AV→Option β):Option β:=match args with
 | [.gU .f64 b]=>bif aR6 b then K (.gU .f64 (aFj b)) else none
 | _=>none
def bFC:aW:=.ext 95 ⟨fun args K=>fbA args K⟩
def bFD:aW:=.ext 96 ⟨fun args K=>bfA args K⟩
def bFE:aW:=.ext 171 ⟨fun args K=>rdA args K⟩
theorem bFF:bFC.Ok CT.P:=by
 intro β args K z h;have h:fbA args K=some z:=h;unfold fbA at h
 split at h
 ·rename_i n _;refine⟨_,h,fun w R ρ us hv=>?_⟩;obtain⟨u1,us1,e1,v1,k1⟩:=hv.cons_inv;obtain rfl:=k1.bE;cases v1;have hu:us=#[.int .u64 n]:=aRl.1 (by simpa using e1);subst hu;refine⟨_,?_,.gU _ _⟩;show(callFunc 95 _).run Tryz.prog w=_;rw [run_callFunc_extern Tryz.func95 (by kernel_rfl) (by kernel_rfl) (by kernel_rfl) (e:=Extern.MathFloatBits.float64frombits) (by kernel_rfl)];rfl
 ·cases h
theorem bAg:bFD.Ok CT.P:=by
 intro β args K z h;have h:bfA args K=some z:=h;unfold bfA at h
 split at h
 ·rename_i n _;refine⟨_,h,fun w R ρ us hv=>?_⟩;obtain⟨u1,us1,e1,v1,k1⟩:=hv.cons_inv;obtain rfl:=k1.bE;cases v1;have hu:us=#[.float .f64 n]:=aRl.1 (by simpa using e1);subst hu;refine⟨_,?_,.int _ _⟩;show(callFunc 96 _).run Tryz.prog w=_;rw [run_callFunc_extern Tryz.func96 (by kernel_rfl) (by kernel_rfl) (by kernel_rfl) (e:=Extern.MathFloatBits.float64bits) (by kernel_rfl)];rfl
 ·cases h
theorem bFG:bFE.Ok CT.P:=by
 intro β args K z h;have h:rdA args K=some z:=h;unfold rdA at h
 split at h
 ·rename_i n _;cases hn:aR6 n with
  | false=>rw [hn] at h;cases h
  | true=>
   rw [hn] at h;refine⟨_,h,fun w R ρ us hv=>?_⟩;obtain⟨u1,us1,e1,v1,k1⟩:=hv.cons_inv;obtain rfl:=k1.bE;cases v1;have hu:us=#[.float .f64 n]:=aRl.1 (by simpa using e1);subst hu;refine⟨_,?_,.gU _ _⟩;show(callFunc 171 _).run Tryz.prog w=_;rw [run_callFunc_extern Tryz.func171 (by kernel_rfl) (by kernel_rfl) (by kernel_rfl) (e:=Extern.MathFloor.toIntegral "math.RoundToEven" .even) (by kernel_rfl)];unfold aR6 at hn;unfold aFj;have:(Extern.MathFloor.toIntegral "math.RoundToEven" .even #[.float .f64 n]).run Tryz.prog w=.ok (.float .f64 (FloatKind.f64.encode ((FloatKind.f64.decode n).integral .even))) w:=by
    delta Extern.MathFloor.toIntegral
    show Sem.run Tryz.prog ((fun x=>_) n) w=_;cases hd:FloatKind.f64.decode n with
    | nan s t=>rw [hd] at hn;cases hn
    | infinity s=>rfl
    | number s m e=>rfl
   rw [this];rfl
 ·cases h
def bAj  : Option (aS [aD]):=some ((((0:Int),(0:Int)),(1:Int),[]),())
def bAk:aW:=.fn 39 [] ⟨[],[aD],fun x=>bAj,false⟩
theorem bFI:bAk.Ok CT.P:=fn0 aL zN Tryz.f39 (by kernel_rfl) fun x=>by kernel_rfl
def FF (a1:Ty.El I):Option (aS [.bool]):=bif decide (a1≥(1:Int)) then some (decide (a1≤(1000000:Int)),()) else some (false,())
def a4h:aW:=.fn 151 [] ⟨[.ty I],[.bool],fun x=>FF x.1,false⟩
theorem a4i:a4h.Ok CT.P:=fn0 aL zN Tryz.f151 (by kernel_rfl) fun x=>by kernel_rfl
def aIV (a1:Ty.El aA):Option (aS [.bool]):=bif a1.2.1==(1:Int) then bif a1.2.2.2.1.1==(0:Int)&&(a1.2.2.2.1.2.1==(0:Int)&&(a1.2.2.2.1.2.2==(0:Int)&&true)) then some (↑(List.length a1.2.2.2.2)==(0:Int),()) else some (false,()) else bif a1.2.1==(2:Int) then bif a1.2.2.1.1==(0:Int)&&(a1.2.2.1.2.1.1==(0:Int)&&(a1.2.2.1.2.1.2==(0:Int)&&true)&&(a1.2.2.1.2.2.1==(0:Int)&&(a1.2.2.1.2.2.2.1.1==(0:Int)&&(a1.2.2.1.2.2.2.1.2==(0:Int)&&true)&&(a1.2.2.1.2.2.2.2.1==(0:Int)&&(a1.2.2.1.2.2.2.2.2==(0:Int)&&true)&&true)))) then some (↑(List.length a1.2.2.2.2)==(0:Int),()) else some (false,()) else bif a1.2.2.1.1==(0:Int)&&(a1.2.2.1.2.1.1==(0:Int)&&(a1.2.2.1.2.1.2==(0:Int)&&true)&&(a1.2.2.1.2.2.1==(0:Int)&&(a1.2.2.1.2.2.2.1.1==(0:Int)&&(a1.2.2.1.2.2.2.1.2==(0:Int)&&true)&&(a1.2.2.1.2.2.2.2.1==(0:Int)&&(a1.2.2.1.2.2.2.2.2==(0:Int)&&true)&&true)))) then some (a1.2.2.2.1.1==(0:Int)&&(a1.2.2.2.1.2.1==(0:Int)&&(a1.2.2.2.1.2.2==(0:Int)&&true)),()) else some (false,())
def bFJ:aW:=.fn 163 [] ⟨[.ty aA],[.bool],fun x=>aIV x.1,false⟩
theorem bFK:bFJ.Ok CT.P:=fn0 aL zN Tryz.f163 (by kernel_rfl) fun x=>by kernel_rfl
def YZ (a1:Ty.El I):Option (aS [.str]):=bif a1==(1:Int) then some ([98,97,108,108],()) else bif a1==(2:Int) then some ([99,114,97,116,101],()) else some ([],())
def bAl:aW:=.fn 214 [] ⟨[.ty I],[.str],fun x=>YZ x.1,false⟩
theorem bAm:bAl.Ok CT.P:=fn0 aL zN Tryz.f214 (by kernel_rfl) fun x=>by kernel_rfl
def jG (a1:Ty.El I)(a2:Ty.El I)(a3:Ty.El I):Option (aS [.bool]):=bif decide (a1≥a2) then some (decide (a1≤a3),()) else some (false,())
def bAn:aW:=.fn 215 [] ⟨[.ty I,.ty I,.ty I],[.bool],fun x=>jG x.1 x.2.1 x.2.2.1,false⟩
theorem a13:bAn.Ok CT.P:=fn0 aL zN Tryz.f215 (by kernel_rfl) fun x=>by kernel_rfl
def dW (a1:Ty.El aU)(a2:Ty.El I):Option (aS [.bool]):=(jG a1.1 (IntKind.i64.wrap ((0:Int)-a2)) a2).bind fun v1=>bif v1.1 then(jG a1.2 (IntKind.i64.wrap ((0:Int)-a2)) a2).bind fun v3=>some (v3.1,()) else some (false,())
def bAo:aW:=.fn 216 [] ⟨[.ty aU,.ty I],[.bool],fun x=>dW x.1 x.2.1,false⟩
theorem bAp:bAo.Ok CT.P:=fn0 aL (B8 a13) Tryz.f216 (by kernel_rfl) fun x=>by kernel_rfl
def l5 (a1:Ty.El aM):Option (aS [.bool]):=(YZ a1.1).bind fun v1=>bif v1.1==[] then some (false,()) else(jG a1.2.1.1 (67108864:Int) (4294967296000:Int)).bind fun v3=>bif !v3.1 then some (false,()) else bif a1.1==(1:Int) then bif a1.2.1.2 != (0:Int) then some (false,()) else bif a1.1==(2:Int) then(jG a1.2.1.2 (67108864:Int) (4294967296000:Int)).bind fun v8=>bif !v8.1 then some (false,()) else bif a1.2.2.1==(0:Int) then bif !(a1.2.2.2.2.1==(0:Int)&&(a1.2.2.2.2.2==(0:Int)&&true)) then some (false,()) else bif a1.2.2.1 != (0:Int) then(jG a1.2.2.1 (67108864:Int) (42949672960000:Int)).bind fun DM=>bif !DM.1 then some (false,()) else(dW a1.2.2.2.1 (42949672960000:Int)).bind fun QE=>bif QE.1 then(dW a1.2.2.2.2 (4294967296000000:Int)).bind fun v17=>some (v17.1,()) else some (false,()) else(dW a1.2.2.2.1 (42949672960000:Int)).bind fun fL=>bif fL.1 then(dW a1.2.2.2.2 (4294967296000000:Int)).bind fun v20=>some (v20.1,()) else some (false,()) else bif a1.2.2.1 != (0:Int) then(jG a1.2.2.1 (67108864:Int) (42949672960000:Int)).bind fun v22=>bif !v22.1 then some (false,()) else(dW a1.2.2.2.1 (42949672960000:Int)).bind fun v24=>bif v24.1 then(dW a1.2.2.2.2 (4294967296000000:Int)).bind fun v26=>some (v26.1,()) else some (false,()) else(dW a1.2.2.2.1 (42949672960000:Int)).bind fun v27=>bif v27.1 then(dW a1.2.2.2.2 (4294967296000000:Int)).bind fun v29=>some (v29.1,()) else some (false,()) else bif a1.2.2.1==(0:Int) then bif !(a1.2.2.2.2.1==(0:Int)&&(a1.2.2.2.2.2==(0:Int)&&true)) then some (false,()) else bif a1.2.2.1 != (0:Int) then(jG a1.2.2.1 (67108864:Int) (42949672960000:Int)).bind fun v33=>bif !v33.1 then some (false,()) else(dW a1.2.2.2.1 (42949672960000:Int)).bind fun v35=>bif v35.1 then(dW a1.2.2.2.2 (4294967296000000:Int)).bind fun v37=>some (v37.1,()) else some (false,()) else(dW a1.2.2.2.1 (42949672960000:Int)).bind fun v38=>bif v38.1 then(dW a1.2.2.2.2 (4294967296000000:Int)).bind fun v40=>some (v40.1,()) else some (false,()) else bif a1.2.2.1 != (0:Int) then(jG a1.2.2.1 (67108864:Int) (42949672960000:Int)).bind fun v42=>bif !v42.1 then some (false,()) else(dW a1.2.2.2.1 (42949672960000:Int)).bind fun v44=>bif v44.1 then(dW a1.2.2.2.2 (4294967296000000:Int)).bind fun v46=>some (v46.1,()) else some (false,()) else(dW a1.2.2.2.1 (42949672960000:Int)).bind fun v47=>bif v47.1 then(dW a1.2.2.2.2 (4294967296000000:Int)).bind fun v49=>some (v49.1,()) else some (false,()) else bif a1.1==(2:Int) then(jG a1.2.1.2 (67108864:Int) (4294967296000:Int)).bind fun v51=>bif !v51.1 then some (false,()) else bif a1.2.2.1==(0:Int) then bif !(a1.2.2.2.2.1==(0:Int)&&(a1.2.2.2.2.2==(0:Int)&&true)) then some (false,()) else bif a1.2.2.1 != (0:Int) then(jG a1.2.2.1 (67108864:Int) (42949672960000:Int)).bind fun v56=>bif !v56.1 then some (false,()) else(dW a1.2.2.2.1 (42949672960000:Int)).bind fun v58=>bif v58.1 then(dW a1.2.2.2.2 (4294967296000000:Int)).bind fun v60=>some (v60.1,()) else some (false,()) else(dW a1.2.2.2.1 (42949672960000:Int)).bind fun v61=>bif v61.1 then(dW a1.2.2.2.2 (4294967296000000:Int)).bind fun v63=>some (v63.1,()) else some (false,()) else bif a1.2.2.1 != (0:Int) then(jG a1.2.2.1 (67108864:Int) (42949672960000:Int)).bind fun v65=>bif !v65.1 then some (false,()) else(dW a1.2.2.2.1 (42949672960000:Int)).bind fun v67=>bif v67.1 then(dW a1.2.2.2.2 (4294967296000000:Int)).bind fun v69=>some (v69.1,()) else some (false,()) else(dW a1.2.2.2.1 (42949672960000:Int)).bind fun v70=>bif v70.1 then(dW a1.2.2.2.2 (4294967296000000:Int)).bind fun v72=>some (v72.1,()) else some (false,()) else bif a1.2.2.1==(0:Int) then bif !(a1.2.2.2.2.1==(0:Int)&&(a1.2.2.2.2.2==(0:Int)&&true)) then some (false,()) else bif a1.2.2.1 != (0:Int) then(jG a1.2.2.1 (67108864:Int) (42949672960000:Int)).bind fun v76=>bif !v76.1 then some (false,()) else(dW a1.2.2.2.1 (42949672960000:Int)).bind fun v78=>bif v78.1 then(dW a1.2.2.2.2 (4294967296000000:Int)).bind fun v80=>some (v80.1,()) else some (false,()) else(dW a1.2.2.2.1 (42949672960000:Int)).bind fun v81=>bif v81.1 then(dW a1.2.2.2.2 (4294967296000000:Int)).bind fun v83=>some (v83.1,()) else some (false,()) else bif a1.2.2.1 != (0:Int) then(jG a1.2.2.1 (67108864:Int) (42949672960000:Int)).bind fun v85=>bif !v85.1 then some (false,()) else(dW a1.2.2.2.1 (42949672960000:Int)).bind fun v87=>bif v87.1 then(dW a1.2.2.2.2 (4294967296000000:Int)).bind fun v89=>some (v89.1,()) else some (false,()) else(dW a1.2.2.2.1 (42949672960000:Int)).bind fun v90=>bif v90.1 then(dW a1.2.2.2.2 (4294967296000000:Int)).bind fun v92=>some (v92.1,()) else some (false,())
def aR9:aW:=.fn 164 [] ⟨[.ty aM],[.bool],fun x=>l5 x.1,false⟩
theorem aO4:aR9.Ok CT.P:=fn0 aL (tb3 bAm a13 bAp) Tryz.f164 (by kernel_rfl) fun x=>by kernel_rfl
def a4n:Code:=Tryz.f165.body.getD .skip
def aSa:Tb:=cC iL iM [a4h]
theorem aLC:aSa.Ok CT.P:=aQ (⟨a4i,trivial⟩)
def aSb:Code:=aX a4n 3
abbrev zO:aF:=⟨39,[(1,.ptr 0),(3,.data I),(7,.data (.list I)),(8,.data I),(9,.data I)],[.var 68 [.data aA]],fun s=>[aG s 1]⟩
abbrev aBo:aF:=⟨39,[(1,.ptr 0)],[.var 68 [.data aA]],fun s=>[aG s 1]⟩
abbrev aBp:aF:=⟨39,[(2,.data .bool)],[],fun _=>[]⟩
def aLD:=ex 0 0 aBo aBp [] []
def jY (r3:Ty.El I)(r7:Ty.El (.list I))(r8:Ty.El I)(r9:Ty.El I)(b0:Ty.El aA×Unit):Option (zO.El⊕(aBo.El⊕aBp.El)):=bif decide (r9<r8) then bif decide ((0:Int)≤r9∧r9<↑(List.length r7)) then bif decide (List.getD r7 (Int.toNat r9) (0:Int)≤r3) then some (Sum.inr (Sum.inr ((false,()),()))) else(FF (List.getD r7 (Int.toNat r9) (0:Int))).bind fun v4=>bif !v4.1 then some (Sum.inr (Sum.inr ((false,()),()))) else bif List.getD r7 (Int.toNat r9) (0:Int)==b0.1.1 then some (Sum.inr (Sum.inr ((false,()),()))) else some (Sum.inl (((),List.getD r7 (Int.toNat r9) (0:Int),r7,r8,IntKind.i64.wrap (r9+(1:Int)),()),(b0.1,()),())) else none else some (Sum.inr (Sum.inl (((),()),(b0.1,()),())))
theorem a4o (x:zO.El):aV CT aSa (cB CT aSa) iI aSb (zO.enc x) (bG (zO.lay []) aLD)=jY x.1.2.1 x.1.2.2.1 x.1.2.2.2.1 x.1.2.2.2.2.1 x.2.1:=by kernel_rfl
def aBq:zO.El→Option (aBo.El⊕aBp.El):=aH (fun x=>jY x.1.2.1 x.1.2.2.1 x.1.2.2.2.1 x.1.2.2.2.2.1 x.2.1) fuel
def a14 {β:Type}:dK β:=fun k s K=>if Nat.beq k 3 then bO (zO.lay []) aLD aBq s K else none
theorem aSc {β:Type}:aC CT (a14 (β:=β)) (aJ a4n):=aC.is [(3,aSb)] (by kernel_rfl) (aC.cons (iW aL aLC (bC (by kernel_rfl)) a4o rfl rfl) (aC.nil))
def XH (a1:Ty.El aA):Option (aS [.bool]):=(aBq (((),(0:Int),a1.2.2.2.2,↑(List.length a1.2.2.2.2),(0:Int),()),(a1,()),())).bind fun v1=>Sum.elim (fun v2=>bif decide (↑(List.length v2.2.1.1.2.2.2.2)≥(1:Int)) then some (decide (↑(List.length v2.2.1.1.2.2.2.2)≤(8:Int)),()) else some (false,())) (fun v4=>some (v4.1.1,())) v1
theorem bFN (x:Ps [.ty aA]):dA CT aSa [.bool] (cB CT aSa) a14 Tryz.f165 a4n (bQ [.ty aA] x)=XH x.1:=by kernel_rfl
def bFO:aW:=.fn 165 [] ⟨[.ty aA],[.bool],fun x=>XH x.1,false⟩
theorem bFP:bFO.Ok CT.P:=aW.ofFn aL aLC (by kernel_rfl) (by kernel_rfl) aSc bFN
def BW (a1:Ty.El aA):Option (aS [.bool]):=(FF a1.1).bind fun v1=>bif !v1.1 then some (false,()) else(aIV a1).bind fun v3=>bif !v3.1 then some (false,()) else bif a1.2.1==(1:Int) then(l5 a1.2.2.1).bind fun v6=>some (v6.1,()) else bif a1.2.1==(2:Int) then(FF a1.2.2.2.1.1).bind fun v8=>bif v8.1 then(FF a1.2.2.2.1.2.1).bind fun v10=>bif v10.1 then bif a1.2.2.2.1.1 != a1.2.2.2.1.2.1 then bif decide (a1.2.2.2.1.2.2≥(0:Int)) then some (decide (a1.2.2.2.1.2.2≤(4294967296000:Int)),()) else some (false,()) else some (false,()) else some (false,()) else some (false,()) else bif a1.2.1==(3:Int) then(XH a1).bind fun QE=>some (QE.1,()) else some (false,())
def aYH:aW:=.fn 124 [] ⟨[.ty aA],[.bool],fun x=>BW x.1,false⟩
theorem aYI:aYH.Ok CT.P:=fn0 aL (tb4 a4i bFK aO4 bFP) Tryz.f124 (by kernel_rfl) fun x=>by kernel_rfl
def FH (a1:Ty.El I):Option (aS [.bool]):=bif decide (a1≥(-4294967296000:Int)) then some (decide (a1≤(4294967296000:Int)),()) else some (false,())
def a15:aW:=.fn 166 [] ⟨[.ty I],[.bool],fun x=>FH x.1,false⟩
theorem bAt:a15.Ok CT.P:=fn0 aL zN Tryz.f166 (by kernel_rfl) fun x=>by kernel_rfl
def aYJ:Code:=Tryz.f125.body.getD .skip
def aIX:Tb:=cC iL iM [aR9,a15]
theorem aBr:aIX.Ok CT.P:=aQ (⟨aO4,bAt,trivial⟩)
def aSd:Code:=aX aYJ 8
def aSe:Code:=aX aYJ 2
abbrev zP:aF:=⟨70,[(1,.ptr 0),(8,.data (.list aM)),(9,.data I),(10,.data I)],[.var 186 [.data bS]],fun s=>[aG s 1]⟩
abbrev aBs:aF:=⟨70,[(1,.ptr 0)],[.var 186 [.data bS]],fun s=>[aG s 1]⟩
abbrev aBt:aF:=⟨70,[(2,.data .bool)],[],fun _=>[]⟩
def aLE:=ex 0 0 aBs aBt [] []
def JC (r8:Ty.El (.list aM))(r9:Ty.El I)(eD:Ty.El I)(b0:Ty.El bS×Unit):Option (zP.El⊕(aBs.El⊕aBt.El)):=bif decide (eD<r9) then bif decide ((0:Int)≤eD∧eD<↑(List.length r8)) then(l5 (List.getD r8 (Int.toNat eD) aM.dflt)).bind fun v3=>bif !v3.1 then some (Sum.inr (Sum.inr ((false,()),()))) else some (Sum.inl (((),r8,r9,IntKind.i64.wrap (eD+(1:Int)),()),(b0.1,()),())) else none else some (Sum.inr (Sum.inl (((),()),(b0.1,()),())))
theorem a4p (x:zP.El):aV CT aIX (cB CT aIX) iI aSe (zP.enc x) (bG (zP.lay []) aLE)=JC x.1.2.1 x.1.2.2.1 x.1.2.2.2.1 x.2.1:=by kernel_rfl
def QF:zP.El→Option (aBs.El⊕aBt.El):=aH (fun x=>JC x.1.2.1 x.1.2.2.1 x.1.2.2.2.1 x.2.1) fuel
abbrev vQ:aF:=⟨70,[(1,.ptr 0),(19,.data (.list aP)),(20,.data I),(21,.data I)],[.var 186 [.data bS]],fun s=>[aG s 1]⟩
abbrev NN:aF:=⟨70,[(1,.ptr 0)],[.var 186 [.data bS]],fun s=>[aG s 1]⟩
abbrev NP:aF:=⟨70,[(2,.data .bool)],[],fun _=>[]⟩
def aLF:=ex 0 2 NN NP [] []
def JD (M4:Ty.El (.list aP))(M7:Ty.El I)(nY:Ty.El I)(b0:Ty.El bS×Unit):Option (vQ.El⊕(NN.El⊕NP.El)):=bif decide (nY<M7) then bif decide ((0:Int)≤nY∧nY<↑(List.length M4)) then bif decide ((if(List.getD M4 (Int.toNat nY) aP.dflt).2.1<(List.getD M4 (Int.toNat nY) aP.dflt).1 then(List.getD M4 (Int.toNat nY) aP.dflt).2.1 else(List.getD M4 (Int.toNat nY) aP.dflt).1)<(0:Int)) then some (Sum.inr (Sum.inr ((false,()),()))) else bif decide ((if(List.getD M4 (Int.toNat nY) aP.dflt).2.1>(List.getD M4 (Int.toNat nY) aP.dflt).1 then(List.getD M4 (Int.toNat nY) aP.dflt).2.1 else(List.getD M4 (Int.toNat nY) aP.dflt).1)≥↑(List.length b0.1.2.1)) then some (Sum.inr (Sum.inr ((false,()),()))) else bif(List.getD M4 (Int.toNat nY) aP.dflt).1==(List.getD M4 (Int.toNat nY) aP.dflt).2.1 then some (Sum.inr (Sum.inr ((false,()),()))) else bif decide ((List.getD M4 (Int.toNat nY) aP.dflt).2.2<(0:Int)) then some (Sum.inr (Sum.inr ((false,()),()))) else bif decide ((List.getD M4 (Int.toNat nY) aP.dflt).2.2>(4294967296000:Int)) then some (Sum.inr (Sum.inr ((false,()),()))) else some (Sum.inl (((),M4,M7,IntKind.i64.wrap (nY+(1:Int)),()),(b0.1,()),())) else none else some (Sum.inr (Sum.inl (((),()),(b0.1,()),())))
theorem a4q (x:vQ.El):aV CT aIX (cB CT aIX) iI aSd (vQ.enc x) (bG (vQ.lay []) aLF)=JD x.1.2.1 x.1.2.2.1 x.1.2.2.2.1 x.2.1:=by kernel_rfl
def aEp:vQ.El→Option (NN.El⊕NP.El):=aH (fun x=>JD x.1.2.1 x.1.2.2.1 x.1.2.2.2.1 x.2.1) fuel
def a16 {β:Type}:dK β:=fun k s K=>if Nat.beq k 2 then bO (zP.lay []) aLE QF s K else if Nat.beq k 8 then bO (vQ.lay []) aLF aEp s K else none
theorem aSf {β:Type}:aC CT (a16 (β:=β)) (aJ aYJ):=aC.is [(2,aSe),(8,aSd)] (by kernel_rfl) (aC.cons (iW aL aBr (bC (by kernel_rfl)) a4p rfl rfl) (aC.cons (iW aL aBr (bC (by kernel_rfl)) a4q rfl rfl) (aC.nil)))
def rL (a1:Ty.El bS):Option (aS [.bool]):=(QF (((),a1.2.1,↑(List.length a1.2.1),(0:Int),()),(a1,()),())).bind fun v1=>Sum.elim (fun v2=>(aEp (((),v2.2.1.1.2.2,↑(List.length v2.2.1.1.2.2),(0:Int),()),(v2.2.1.1,()),())).bind fun v3=>Sum.elim (fun v4=>(FH v4.2.1.1.1.1).bind fun v5=>bif v5.1 then(FH v4.2.1.1.1.2).bind fun v7=>some (v7.1,()) else some (false,())) (fun v8=>some (v8.1.1,())) v3) (fun v9=>some (v9.1.1,())) v1
theorem bFQ (x:Ps [.ty bS]):dA CT aIX [.bool] (cB CT aIX) a16 Tryz.f125 aYJ (bQ [.ty bS] x)=rL x.1:=by kernel_rfl
def aSg:aW:=.fn 125 [] ⟨[.ty bS],[.bool],fun x=>rL x.1,false⟩
theorem aO5:aSg.Ok CT.P:=aW.ofFn aL aBr (by kernel_rfl) (by kernel_rfl) aSf bFQ
def a17:aW:=.fn 125 [] ⟨[.ty bS],[.bool],fun x=>rL x.1,true⟩
def a4r:Code:=Tryz.f85.body.getD .skip
def aSh:Tb:=cC iL iM [aYH,aSg]
theorem aLG:aSh.Ok CT.P:=aQ (⟨aYI,aO5,trivial⟩)
def aSi:Code:=aX a4r 3
abbrev zQ:aF:=⟨52,[(1,.ptr 0),(3,.data I),(7,.data (.list aA)),(8,.data I),(9,.data I)],[.var 51 [.data aD]],fun s=>[aG s 1]⟩
abbrev aBu:aF:=⟨52,[(1,.ptr 0)],[.var 51 [.data aD]],fun s=>[aG s 1]⟩
abbrev aBv:aF:=⟨52,[(2,.data .bool)],[],fun _=>[]⟩
def aLH:=ex 0 0 aBu aBv [] []
def QH (r3:Ty.El I)(r7:Ty.El (.list aA))(r8:Ty.El I)(r9:Ty.El I)(b0:Ty.El aD×Unit):Option (zQ.El⊕(aBu.El⊕aBv.El)):=bif decide (r9<r8) then bif decide ((0:Int)≤r9∧r9<↑(List.length r7)) then(BW (List.getD r7 (Int.toNat r9) (I.pair (I.pair (aM.pair (aP.pair I.list)))).dflt)).bind fun v3=>bif !v3.1 then some (Sum.inr (Sum.inr ((false,()),()))) else bif decide ((List.getD r7 (Int.toNat r9) (I.pair (I.pair (aM.pair (aP.pair I.list)))).dflt).1≤r3) then some (Sum.inr (Sum.inr ((false,()),()))) else bif decide ((List.getD r7 (Int.toNat r9) (I.pair (I.pair (aM.pair (aP.pair I.list)))).dflt).1≥b0.1.2.1) then some (Sum.inr (Sum.inr ((false,()),()))) else some (Sum.inl (((),(List.getD r7 (Int.toNat r9) (I.pair (I.pair (aM.pair (aP.pair I.list)))).dflt).1,r7,r8,IntKind.i64.wrap (r9+(1:Int)),()),(b0.1,()),())) else none else some (Sum.inr (Sum.inl (((),()),(b0.1,()),())))
theorem a4s (x:zQ.El):aV CT aSh (cB CT aSh) iI aSi (zQ.enc x) (bG (zQ.lay []) aLH)=QH x.1.2.1 x.1.2.2.1 x.1.2.2.2.1 x.1.2.2.2.2.1 x.2.1:=by kernel_rfl
def aIY:zQ.El→Option (aBu.El⊕aBv.El):=aH (fun x=>QH x.1.2.1 x.1.2.2.1 x.1.2.2.2.1 x.1.2.2.2.2.1 x.2.1) fuel
def a18 {β:Type}:dK β:=fun k s K=>if Nat.beq k 3 then bO (zQ.lay []) aLH aIY s K else none
theorem aSj {β:Type}:aC CT (a18 (β:=β)) (aJ a4r):=aC.is [(3,aSi)] (by kernel_rfl) (aC.cons (iW aL aLG (bC (by kernel_rfl)) a4s rfl rfl) (aC.nil))
def aSk (a1:Ty.El aD):Option (aS [.bool]):=(aIY (((),(0:Int),a1.2.2,↑(List.length a1.2.2),(0:Int),()),(a1,()),())).bind fun v1=>Sum.elim (fun v2=>bif decide (↑(List.length v2.2.1.1.2.2)≤(40:Int)) then bif decide (v2.2.1.1.2.1≥(1:Int)) then bif decide (v2.2.1.1.2.1≤(1000001:Int)) then(rL (v2.2.1.1.1,[],[])).bind fun v6=>some (v6.1,()) else some (false,()) else some (false,()) else some (false,())) (fun v7=>some (v7.1.1,())) v1
theorem bFR (x:Ps [.ty aD]):dA CT aSh [.bool] (cB CT aSh) a18 Tryz.f85 a4r (bQ [.ty aD] x)=aSk x.1:=by kernel_rfl
def bFS:aW:=.fn 85 [] ⟨[.ty aD],[.bool],fun x=>aSk x.1,false⟩
theorem bFT:bFS.Ok CT.P:=aW.ofFn aL aLG (by kernel_rfl) (by kernel_rfl) aSj bFR
def a4t:Code:=Tryz.f87.body.getD .skip
def aIZ:Tb:=cC iL iM []
theorem aBw:aIZ.Ok CT.P:=aQ (trivial)
def aBx:Code:=aX a4t 3
def aSl:Code:=aX aBx 6
abbrev zR:aF:=⟨30,[(3,.map 0),(10,.data (.list aA)),(11,.data I),(12,.data I),(17,.data (.list I)),(18,.data I),(19,.data I)],[.cE I .bool],fun s=>[aG s 3]⟩
abbrev aBy:aF:=⟨30,[(3,.map 0),(10,.data (.list aA)),(11,.data I),(12,.data I)],[.cE I .bool],fun s=>[aG s 3]⟩
abbrev aBz:aF:=⟨30,[(2,.data .bool)],[],fun _=>[]⟩
def aLI:=ex 0 2 aBy aBz [] []
def QI (eD:Ty.El (.list aA))(eM:Ty.El I)(lJ:Ty.El I)(sI:Ty.El (.list I))(Y0:Ty.El I)(M4:Ty.El I)(b0:List (Ty.El I×Ty.El (.bool))):Option (zR.El⊕(aBy.El⊕aBz.El)):=bif decide (M4<Y0) then bif decide ((0:Int)≤M4∧M4<↑(List.length sI)) then bif(fV (Ty.int IntKind.i64) Ty.bool (List.getD sI (Int.toNat M4) (0:Int)) b0).getD false then some (Sum.inr (Sum.inr ((false,()),()))) else some (Sum.inl (((),eD,eM,lJ,sI,Y0,IntKind.i64.wrap (M4+(1:Int)),()),lG (Ty.int IntKind.i64) Ty.bool (List.getD sI (Int.toNat M4) (0:Int)) true b0,())) else none else some (Sum.inr (Sum.inl (((),eD,eM,lJ,()),b0,())))
theorem a4u (x:zR.El):aV CT aIZ (cB CT aIZ) iI aSl (zR.enc x) (bG (zR.lay []) aLI)=QI x.1.2.1 x.1.2.2.1 x.1.2.2.2.1 x.1.2.2.2.2.1 x.1.2.2.2.2.2.1 x.1.2.2.2.2.2.2.1 x.2.1:=by kernel_rfl
def aI0:zR.El→Option (aBy.El⊕aBz.El):=aH (fun x=>QI x.1.2.1 x.1.2.2.1 x.1.2.2.2.1 x.1.2.2.2.2.1 x.1.2.2.2.2.2.1 x.1.2.2.2.2.2.2.1 x.2.1) fuel
abbrev zS:aF:=⟨30,[(3,.map 0),(10,.data (.list aA)),(11,.data I),(12,.data I)],[.cE I .bool],fun s=>[aG s 3]⟩
abbrev aBA:aF:=⟨30,[],[],fun _=>[]⟩
abbrev aBB:aF:=⟨30,[(2,.data .bool)],[],fun _=>[]⟩
def aLJ:=ex 0 0 aBA aBB [] []
def aFl {β:Type}:dK β:=fun k s K=>if Nat.beq k 6 then bO (zR.lay []) aLI aI0 s K else none
theorem aFm {β:Type}:aC CT (aFl (β:=β)) (aJ aBx):=aC.is [(6,aSl)] (by kernel_rfl) (aC.cons (iW aL aBw (bC (by kernel_rfl)) a4u rfl rfl) (aC.nil))
def QJ (eD:Ty.El (.list aA))(eM:Ty.El I)(lJ:Ty.El I)(b0:List (Ty.El I×Ty.El (.bool))):Option (zS.El⊕(aBA.El⊕aBB.El)):=bif decide (lJ<eM) then bif decide ((0:Int)≤lJ∧lJ<↑(List.length eD)) then(aI0 (((),eD,eM,lJ,(List.getD eD (Int.toNat lJ) (I.pair (I.pair (aM.pair (aP.pair I.list)))).dflt).2.2.2.2,↑(List.length (List.getD eD (Int.toNat lJ) (I.pair (I.pair (aM.pair (aP.pair I.list)))).dflt).2.2.2.2),(0:Int),()),b0,())).bind fun v3=>Sum.elim (fun v4=>some (Sum.inl (((),v4.1.2.1,v4.1.2.2.1,IntKind.i64.wrap (v4.1.2.2.2.1+(1:Int)),()),v4.2.1,()))) (fun v5=>some (Sum.inr (Sum.inr ((v5.1.1,()),())))) v3 else none else some (Sum.inr (Sum.inl ((),())))
theorem a4v (x:zS.El):aV CT aIZ (cB CT aIZ) aFl aBx (zS.enc x) (bG (zS.lay []) aLJ)=QJ x.1.2.1 x.1.2.2.1 x.1.2.2.2.1 x.2.1:=by kernel_rfl
def aI1:zS.El→Option (aBA.El⊕aBB.El):=aH (fun x=>QJ x.1.2.1 x.1.2.2.1 x.1.2.2.2.1 x.2.1) fuel
def a19 {β:Type}:dK β:=fun k s K=>if Nat.beq k 3 then bO (zS.lay []) aLJ aI1 s K else none
theorem aSm {β:Type}:aC CT (a19 (β:=β)) (aJ a4t):=aC.is [(3,aBx)] (by kernel_rfl) (aC.cons (iW aL aBw aFm a4v rfl rfl) (aC.nil))
def QK (a1:Ty.El aD):Option (aS [.bool]):=(aI1 (((),a1.2.2,↑(List.length a1.2.2),(0:Int),()),[],())).bind fun v1=>Sum.elim (fun v2=>some (true,())) (fun v3=>some (v3.1.1,())) v1
theorem bFU (x:Ps [.ty aD]):dA CT aIZ [.bool] (cB CT aIZ) a19 Tryz.f87 a4t (bQ [.ty aD] x)=QK x.1:=by kernel_rfl
def bAu:aW:=.fn 87 [] ⟨[.ty aD],[.bool],fun x=>QK x.1,false⟩
theorem bAv:bAu.Ok CT.P:=aW.ofFn aL aBw (by kernel_rfl) (by kernel_rfl) aSm bFU
def aLK (a1:Ty.El I):Option (aS [.bool]):=some (a1 != a1,())
def bAw:aW:=.fn 217 [] ⟨[.ty I],[.bool],fun x=>aLK x.1,false⟩
theorem bAx:bAw.Ok CT.P:=fn0 aL zN Tryz.f217 (by kernel_rfl) fun x=>by kernel_rfl
def aBC (a1:Ty.El I)(a2:Ty.El I):Option (aS [I]):=(aLK a1).bind fun v1=>(aLK a2).bind fun v2=>bif v1.1 then bif v2.1 then some ((0:Int),()) else some ((-1:Int),()) else bif v2.1 then some ((1:Int),()) else bif decide (a1<a2) then some ((-1:Int),()) else bif decide (a1>a2) then some ((1:Int),()) else some ((0:Int),())
def bFV:aW:=.fn 169 [] ⟨[.ty I,.ty I],[I],fun x=>aBC x.1 x.2.1,false⟩
theorem bAy:bFV.Ok CT.P:=fn0 aL (B8 bAx) Tryz.f169 (by kernel_rfl) fun x=>by kernel_rfl
def aYK (a1:Ty.El aA)(a2:Ty.El I):Option (aS [I]):=(aBC a1.1 a2).bind fun v1=>some (v1.1,())
def bAz:aW:=.fn 168 [] ⟨[.ty aA,.ty I],[I],fun x=>aYK x.1 x.2.1,false⟩
theorem bFW:bAz.Ok CT.P:=fn0 aL (B8 bAy) Tryz.f168 (by kernel_rfl) fun x=>by kernel_rfl
def a4w:Code:=Tryz.f167.body.getD .skip
def aSn:Tb:=cC iL iM [bAz]
theorem aLL:aSn.Ok CT.P:=aQ (⟨bFW,trivial⟩)
def aSo:Code:=aX a4w 3
abbrev zT:aF:=⟨49,[(0,.data (.list aA)),(1,.data I),(2,.vE 168 []),(8,.data I),(9,.data I),(10,.data I)],[],fun _=>[]⟩
abbrev aBD:aF:=⟨49,[(0,.data (.list aA)),(1,.data I),(2,.vE 168 []),(8,.data I),(9,.data I)],[],fun _=>[]⟩
abbrev aBE:aF:=l0 49
def aLM:=ex 0 0 aBD aBE [] []
def QL (r0:Ty.El (.list aA))(r1:Ty.El I)(r2:aS [])(r8:Ty.El I)(r9:Ty.El I)(eD:Ty.El I):Option (zT.El⊕(aBD.El⊕aBE.El)):=bif decide (r9<eD) then bif decide ((0:Int)≤IntKind.i64.wrap ((IntKind.u64.wrap (IntKind.i64.wrap (r9+eD))).fdiv (2:Int))∧IntKind.i64.wrap ((IntKind.u64.wrap (IntKind.i64.wrap (r9+eD))).fdiv (2:Int))<↑(List.length r0)) then(aYK (List.getD r0 (IntKind.i64.wrap ((IntKind.u64.wrap (IntKind.i64.wrap (r9+eD))).fdiv (2:Int))).toNat (I.pair (I.pair (aM.pair (aP.pair I.list)))).dflt) r1).bind fun v3=>bif decide (v3.1<(0:Int)) then some (Sum.inl ((r0,r1,(),r8,IntKind.i64.wrap (IntKind.i64.wrap ((IntKind.u64.wrap (IntKind.i64.wrap (r9+eD))).fdiv (2:Int))+(1:Int)),eD,()),())) else some (Sum.inl ((r0,r1,(),r8,r9,IntKind.i64.wrap ((IntKind.u64.wrap (IntKind.i64.wrap (r9+eD))).fdiv (2:Int)),()),())) else none else some (Sum.inr (Sum.inl ((r0,r1,(),r8,r9,()),())))
theorem a4x (x:zT.El):aV CT aSn (cB CT aSn) iI aSo (zT.enc x) (bG (zT.lay []) aLM)=QL x.1.1 x.1.2.1 x.1.2.2.1 x.1.2.2.2.1 x.1.2.2.2.2.1 x.1.2.2.2.2.2.1:=by kernel_rfl
def aI2:zT.El→Option (aBD.El⊕aBE.El):=aH (fun x=>QL x.1.1 x.1.2.1 x.1.2.2.1 x.1.2.2.2.1 x.1.2.2.2.2.1 x.1.2.2.2.2.2.1) fuel
def a2a {β:Type}:dK β:=fun k s K=>if Nat.beq k 3 then bO (zT.lay []) aLM aI2 s K else none
theorem aSp {β:Type}:aC CT (a2a (β:=β)) (aJ a4w):=aC.is [(3,aSo)] (by kernel_rfl) (aC.cons (iW aL aLL (bC (by kernel_rfl)) a4x rfl rfl) (aC.nil))
def aSq (a1:Ty.El (.list aA))(a2:Ty.El I)(a3:aS []):Option (aS [I,.bool]):=(aI2 ((a1,a2,(),↑(List.length a1),(0:Int),↑(List.length a1),()),())).bind fun v1=>Sum.elim (fun v2=>bif decide (v2.1.2.2.2.2.1<v2.1.2.2.2.1) then bif decide ((0:Int)≤v2.1.2.2.2.2.1∧v2.1.2.2.2.2.1<↑(List.length v2.1.1)) then(aYK (List.getD v2.1.1 (Int.toNat v2.1.2.2.2.2.1) (I.pair (I.pair (aM.pair (aP.pair I.list)))).dflt) v2.1.2.1).bind fun v5=>some (v2.1.2.2.2.2.1,v5.1==(0:Int),()) else none else some (v2.1.2.2.2.2.1,false,())) (fun v6=>none) v1
theorem bFX (x:Ps [.ty (.list aA),.ty I,.vE 168 []]):dA CT aSn [I,.bool] (cB CT aSn) a2a Tryz.f167 a4w (bQ [.ty (.list aA),.ty I,.vE 168 []] x)=aSq x.1 x.2.1 x.2.2.1:=by kernel_rfl
def bFY:aW:=.fn 167 [168] ⟨[.ty (.list aA),.ty I,.vE 168 []],[I,.bool],fun x=>aSq x.1 x.2.1 x.2.2.1,false⟩
theorem bFZ:bFY.Ok CT.P:=aW.ofFn aL aLL (by kernel_rfl) (by kernel_rfl) aSp bFX
def aFn (a1:Ty.El aD)(a2:Ty.El I):Option (aS [I,.bool]):=(aSq a1.2.2 a2 ()).bind fun v1=>some (v1.1,v1.2.1,())
def aYL:aW:=.fn 126 [] ⟨[.ty aD,.ty I],[I,.bool],fun x=>aFn x.1 x.2.1,false⟩
theorem a4y:aYL.Ok CT.P:=fn0 aL (B8 bFZ) Tryz.f126 (by kernel_rfl) fun x=>by kernel_rfl
def a4z (a1:Ty.El aA)(a2:Ty.El I):Option (aS [.bool]):=some (a1.1==a2,())
def bAA:aW:=.fn 93 [] ⟨[.ty aA,.jL I],[.bool],fun x=>a4z x.1 x.2.1,false⟩
theorem bF0:bAA.Ok CT.P:=fn0 aL zN Tryz.f93 (by kernel_rfl) fun x=>by kernel_rfl
def aSr:Code:=Tryz.f92.body.getD .skip
def aFo:Tb:=cC iL iM [bAA]
theorem aFp:aFo.Ok CT.P:=aQ (⟨bF0,trivial⟩)
def aLN:Code:=aX aSr 2
abbrev sJ:aF:=⟨19,[(0,.data (.list aA)),(1,.vE 93 [I]),(7,.data I),(8,.data I)],[],fun _=>[]⟩
abbrev QM:aF:=⟨19,[],[],fun _=>[]⟩
abbrev QN:aF:=⟨19,[(4,.data I)],[],fun _=>[]⟩
def aFq:=ex 0 0 QM QN [] []
def FI (r0:Ty.El (.list aA))(r1:aS [I])(r7:Ty.El I)(r8:Ty.El I):Option (sJ.El⊕(QM.El⊕QN.El)):=bif decide (r8<r7) then bif decide ((0:Int)≤r8∧r8<↑(List.length r0)) then(a4z (List.getD r0 (Int.toNat r8) (I.pair (I.pair (aM.pair (aP.pair I.list)))).dflt) r1.1).bind fun v3=>bif v3.1 then some (Sum.inr (Sum.inr ((r8,()),()))) else some (Sum.inl ((r0,(r1.1,()),r7,IntKind.i64.wrap (r8+(1:Int)),()),())) else none else some (Sum.inr (Sum.inl ((),())))
theorem aYM (x:sJ.El):aV CT aFo (cB CT aFo) iI aLN (sJ.enc x) (bG (sJ.lay []) aFq)=FI x.1.1 x.1.2.1 x.1.2.2.1 x.1.2.2.2.1:=by kernel_rfl
def aBF:sJ.El→Option (QM.El⊕QN.El):=aH (fun x=>FI x.1.1 x.1.2.1 x.1.2.2.1 x.1.2.2.2.1) fuel
def aSs {β:Type}:dK β:=fun k s K=>if Nat.beq k 2 then bO (sJ.lay []) aFq aBF s K else none
theorem aO6 {β:Type}:aC CT (aSs (β:=β)) (aJ aSr):=aC.is [(2,aLN)] (by kernel_rfl) (aC.cons (iW aL aFp (bC (by kernel_rfl)) aYM rfl rfl) (aC.nil))
def aFr (a1:Ty.El (.list aA))(a2:aS [I]):Option (aS [I]):=(aBF ((a1,(a2.1,()),↑(List.length a1),(0:Int),()),())).bind fun v1=>Sum.elim (fun v2=>some ((-1:Int),())) (fun v3=>some (v3.1.1,())) v1
theorem bAB (x:Ps [.ty (.list aA),.vE 93 [I]]):dA CT aFo [I] (cB CT aFo) aSs Tryz.f92 aSr (bQ [.ty (.list aA),.vE 93 [I]] x)=aFr x.1 x.2.1:=by kernel_rfl
def bAC:aW:=.fn 92 [93] ⟨[.ty (.list aA),.vE 93 [I]],[I],fun x=>aFr x.1 x.2.1,false⟩
theorem bAD:bAC.Ok CT.P:=aW.ofFn aL aFp (by kernel_rfl) (by kernel_rfl) aO6 bAB
def aYN:Code:=Tryz.f129.body.getD .skip
def aBG:Tb:=cC iL iM []
theorem NQ:aBG.Ok CT.P:=aQ (trivial)
def aLO:Code:=aX aYN 13
def aBH:Code:=aX aYN 3
def aSt:Code:=aX aBH 6
abbrev zU:aF:=⟨47,[(1,.data I),(2,.ptr 0),(5,.map 1),(7,.ptr 2),(13,.data (.list aA)),(14,.data I),(15,.data I),(20,.data (.list I)),(21,.data I),(22,.data I)],[.var 51 [.data aD],.cE I I,.var 68 [.data aA]],fun s=>[aG s 2,aG s 5,aG s 7]⟩
abbrev aBI:aF:=⟨47,[(1,.data I),(2,.ptr 0),(5,.map 1),(13,.data (.list aA)),(14,.data I),(15,.data I)],[.var 51 [.data aD],.cE I I],fun s=>[aG s 2,aG s 5]⟩
abbrev aBJ:aF:=l0 47
def aLP:=ex 0 2 aBI aBJ [] []
def QO (r1:Ty.El I)(gV:Ty.El (.list aA))(fQ:Ty.El I)(jR:Ty.El I)(M7:Ty.El (.list I))(nY:Ty.El I)(r22:Ty.El I)(b0:Ty.El aD×Unit)(b1:List (Ty.El I×Ty.El I))(b2:Ty.El aA×Unit):Option (zU.El⊕(aBI.El⊕aBJ.El)):=bif decide (r22<nY) then bif decide ((0:Int)≤r22∧r22<↑(List.length M7)) then some (Sum.inl ((r1,(),(),(),gV,fQ,jR,M7,nY,IntKind.i64.wrap (r22+(1:Int)),()),(b0.1,()),lG (Ty.int IntKind.i64) (Ty.int IntKind.i64) (List.getD M7 (Int.toNat r22) (0:Int)) b2.1.1 b1,(b2.1,()),())) else none else some (Sum.inr (Sum.inl ((r1,(),(),gV,fQ,jR,()),(b0.1,()),b1,())))
theorem a4A (x:zU.El):aV CT aBG (cB CT aBG) iI aSt (zU.enc x) (bG (zU.lay []) aLP)=QO x.1.1 x.1.2.2.2.2.1 x.1.2.2.2.2.2.1 x.1.2.2.2.2.2.2.1 x.1.2.2.2.2.2.2.2.1 x.1.2.2.2.2.2.2.2.2.1 x.1.2.2.2.2.2.2.2.2.2.1 x.2.1 x.2.2.1 x.2.2.2.1:=by kernel_rfl
def aI3:zU.El→Option (aBI.El⊕aBJ.El):=aH (fun x=>QO x.1.1 x.1.2.2.2.2.1 x.1.2.2.2.2.2.1 x.1.2.2.2.2.2.2.1 x.1.2.2.2.2.2.2.2.1 x.1.2.2.2.2.2.2.2.2.1 x.1.2.2.2.2.2.2.2.2.2.1 x.2.1 x.2.2.1 x.2.2.2.1) fuel
abbrev zV:aF:=⟨47,[(1,.data I),(2,.ptr 0),(5,.map 1),(13,.data (.list aA)),(14,.data I),(15,.data I)],[.var 51 [.data aD],.cE I I],fun s=>[aG s 2,aG s 5]⟩
abbrev aBK:aF:=⟨47,[(1,.data I),(2,.ptr 0),(5,.map 1)],[.var 51 [.data aD],.cE I I],fun s=>[aG s 2,aG s 5]⟩
abbrev aBL:aF:=l0 47
def aLQ:=ex 0 0 aBK aBL [] []
def aFs {β:Type}:dK β:=fun k s K=>if Nat.beq k 6 then bO (zU.lay []) aLP aI3 s K else none
theorem aFt {β:Type}:aC CT (aFs (β:=β)) (aJ aBH):=aC.is [(6,aSt)] (by kernel_rfl) (aC.cons (iW aL NQ (bC (by kernel_rfl)) a4A rfl rfl) (aC.nil))
def QR (r1:Ty.El I)(gV:Ty.El (.list aA))(fQ:Ty.El I)(jR:Ty.El I)(b0:Ty.El aD×Unit)(b1:List (Ty.El I×Ty.El I)):Option (zV.El⊕(aBK.El⊕aBL.El)):=bif decide (jR<fQ) then bif decide ((0:Int)≤jR∧jR<↑(List.length gV)) then(aI3 ((r1,(),(),(),gV,fQ,jR,(List.getD gV (Int.toNat jR) (I.pair (I.pair (aM.pair (aP.pair I.list)))).dflt).2.2.2.2,↑(List.length (List.getD gV (Int.toNat jR) (I.pair (I.pair (aM.pair (aP.pair I.list)))).dflt).2.2.2.2),(0:Int),()),(b0.1,()),b1,(List.getD gV (Int.toNat jR) (I.pair (I.pair (aM.pair (aP.pair I.list)))).dflt,()),())).bind fun v3=>Sum.elim (fun v4=>some (Sum.inl ((v4.1.1,(),(),v4.1.2.2.2.1,v4.1.2.2.2.2.1,IntKind.i64.wrap (v4.1.2.2.2.2.2.1+(1:Int)),()),(v4.2.1.1,()),v4.2.2.1,()))) (fun v5=>some (Sum.inr (Sum.inr ((),())))) v3 else none else some (Sum.inr (Sum.inl ((r1,(),(),()),(b0.1,()),b1,())))
theorem a4B (x:zV.El):aV CT aBG (cB CT aBG) aFs aBH (zV.enc x) (bG (zV.lay []) aLQ)=QR x.1.1 x.1.2.2.2.1 x.1.2.2.2.2.1 x.1.2.2.2.2.2.1 x.2.1 x.2.2.1:=by kernel_rfl
def aI4:zV.El→Option (aBK.El⊕aBL.El):=aH (fun x=>QR x.1.1 x.1.2.2.2.1 x.1.2.2.2.2.1 x.1.2.2.2.2.2.1 x.2.1 x.2.2.1) fuel
abbrev sK:aF:=⟨47,[(1,.data I),(5,.map 0),(10,.data I),(37,.data I),(38,.data I)],[.cE I I],fun s=>[aG s 5]⟩
abbrev QS:aF:=⟨47,[],[],fun _=>[]⟩
abbrev QT:aF:=⟨47,[(4,.data .bool)],[],fun _=>[]⟩
def aFu:=ex 0 4 QS QT [] []
def zW (r1:Ty.El I)(eD:Ty.El I)(r37:Ty.El I)(r38:Ty.El I)(b0:List (Ty.El I×Ty.El I)):Option (sK.El⊕(QS.El⊕QT.El)):=bif decide (r38<r37) then bif eD==r1 then some (Sum.inr (Sum.inr ((true,()),()))) else some (Sum.inl ((r1,(),(fV (Ty.int IntKind.i64) (Ty.int IntKind.i64) eD b0).getD (0:Int),r37,IntKind.i64.wrap (r38+(1:Int)),()),b0,())) else some (Sum.inr (Sum.inl ((),())))
theorem aYO (x:sK.El):aV CT aBG (cB CT aBG) iI aLO (sK.enc x) (bG (sK.lay []) aFu)=zW x.1.1 x.1.2.2.1 x.1.2.2.2.1 x.1.2.2.2.2.1 x.2.1:=by kernel_rfl
def NR:sK.El→Option (QS.El⊕QT.El):=aH (fun x=>zW x.1.1 x.1.2.2.1 x.1.2.2.2.1 x.1.2.2.2.2.1 x.2.1) fuel
def a2b {β:Type}:dK β:=fun k s K=>if Nat.beq k 3 then bO (zV.lay []) aLQ aI4 s K else if Nat.beq k 13 then bO (sK.lay []) aFu NR s K else none
theorem aSu {β:Type}:aC CT (a2b (β:=β)) (aJ aYN):=aC.is [(3,aBH),(13,aLO)] (by kernel_rfl) (aC.cons (iW aL NQ aFt a4B rfl rfl) (aC.cons (iW aL NQ (bC (by kernel_rfl)) aYO rfl rfl) (aC.nil)))
def aO8 (a1:Ty.El aD)(a2:Ty.El I):Option (aS [.bool]):=(aI4 ((a2,(),(),a1.2.2,↑(List.length a1.2.2),(0:Int),()),(a1,()),[],())).bind fun v1=>Sum.elim (fun v2=>(NR ((v2.1.1,(),(fV (Ty.int IntKind.i64) (Ty.int IntKind.i64) v2.1.1 v2.2.2.1).getD (0:Int),↑(List.length v2.2.1.1.2.2),(0:Int),()),v2.2.2.1,())).bind fun v3=>Sum.elim (fun v4=>some (false,())) (fun v5=>some (v5.1.1,())) v3) (fun v6=>none) v1
theorem bF1 (x:Ps [.ty aD,.ty I]):dA CT aBG [.bool] (cB CT aBG) a2b Tryz.f129 aYN (bQ [.ty aD,.ty I] x)=aO8 x.1 x.2.1:=by kernel_rfl
def bF2:aW:=.fn 129 [] ⟨[.ty aD,.ty I],[.bool],fun x=>aO8 x.1 x.2.1,false⟩
theorem bF3:bF2.Ok CT.P:=aW.ofFn aL NQ (by kernel_rfl) (by kernel_rfl) aSu bF1
def a4C (a1:Ty.El aA)(a2:Ty.El aD):Option (aS [.bool]):=(aO8 a2 a1.1).bind fun v1=>some (v1.1,())
def bAE:aW:=.fn 128 [] ⟨[.ty aA,.jL aD],[.bool],fun x=>a4C x.1 x.2.1,false⟩
theorem bF4:bAE.Ok CT.P:=fn0 aL (B8 bF3) Tryz.f128 (by kernel_rfl) fun x=>by kernel_rfl
def aSv:Code:=Tryz.f92.body.getD .skip
def aFv:Tb:=cC iL iM [bAE]
theorem aFw:aFv.Ok CT.P:=aQ (⟨bF4,trivial⟩)
def aLR:Code:=aX aSv 2
abbrev sM:aF:=⟨19,[(0,.data (.list aA)),(1,.vE 128 [aD]),(7,.data I),(8,.data I)],[],fun _=>[]⟩
abbrev QU:aF:=⟨19,[],[],fun _=>[]⟩
abbrev QV:aF:=⟨19,[(4,.data I)],[],fun _=>[]⟩
def aFx:=ex 0 0 QU QV [] []
def FJ (r0:Ty.El (.list aA))(r1:aS [aD])(r7:Ty.El I)(r8:Ty.El I):Option (sM.El⊕(QU.El⊕QV.El)):=bif decide (r8<r7) then bif decide ((0:Int)≤r8∧r8<↑(List.length r0)) then(a4C (List.getD r0 (Int.toNat r8) (I.pair (I.pair (aM.pair (aP.pair I.list)))).dflt) r1.1).bind fun v3=>bif v3.1 then some (Sum.inr (Sum.inr ((r8,()),()))) else some (Sum.inl ((r0,(r1.1,()),r7,IntKind.i64.wrap (r8+(1:Int)),()),())) else none else some (Sum.inr (Sum.inl ((),())))
theorem aYP (x:sM.El):aV CT aFv (cB CT aFv) iI aLR (sM.enc x) (bG (sM.lay []) aFx)=FJ x.1.1 x.1.2.1 x.1.2.2.1 x.1.2.2.2.1:=by kernel_rfl
def aBM:sM.El→Option (QU.El⊕QV.El):=aH (fun x=>FJ x.1.1 x.1.2.1 x.1.2.2.1 x.1.2.2.2.1) fuel
def aSw {β:Type}:dK β:=fun k s K=>if Nat.beq k 2 then bO (sM.lay []) aFx aBM s K else none
theorem aO9 {β:Type}:aC CT (aSw (β:=β)) (aJ aSv):=aC.is [(2,aLR)] (by kernel_rfl) (aC.cons (iW aL aFw (bC (by kernel_rfl)) aYP rfl rfl) (aC.nil))
def Y1 (a1:Ty.El (.list aA))(a2:aS [aD]):Option (aS [I]):=(aBM ((a1,(a2.1,()),↑(List.length a1),(0:Int),()),())).bind fun v1=>Sum.elim (fun v2=>some ((-1:Int),())) (fun v3=>some (v3.1.1,())) v1
theorem bAF (x:Ps [.ty (.list aA),.vE 128 [aD]]):dA CT aFv [I] (cB CT aFv) aSw Tryz.f92 aSv (bQ [.ty (.list aA),.vE 128 [aD]] x)=Y1 x.1 x.2.1:=by kernel_rfl
def bAG:aW:=.fn 92 [128] ⟨[.ty (.list aA),.vE 128 [aD]],[I],fun x=>Y1 x.1 x.2.1,false⟩
theorem bAH:bAG.Ok CT.P:=aW.ofFn aL aFw (by kernel_rfl) (by kernel_rfl) aO9 bAF
def bAI (a1:Ty.El (.list aA))(a2:aS [aD]):Option (aS [.bool]):=(Y1 a1 (a2.1,())).bind fun v1=>some (decide (v1.1≥(0:Int)),())
def bF5:aW:=.fn 127 [128] ⟨[.ty (.list aA),.vE 128 [aD]],[.bool],fun x=>bAI x.1 x.2.1,false⟩
theorem bF6:bF5.Ok CT.P:=fn0 aL (B8 bAH) Tryz.f127 (by kernel_rfl) fun x=>by kernel_rfl
def QW (a1:Ty.El aD):Option (aS [.bool]):=(bAI a1.2.2 (a1,())).bind fun v1=>some (!v1.1,())
def bAJ:aW:=.fn 88 [] ⟨[.ty aD],[.bool],fun x=>QW x.1,false⟩
theorem bAK:bAJ.Ok CT.P:=fn0 aL (B8 bF6) Tryz.f88 (by kernel_rfl) fun x=>by kernel_rfl
end Go.DI.S
end
