import Derived.Test.YtbjldjihpekhaaaGreatDie
import Derived.Test.YtbjldjihpekhaaaGreatProg
import Derived.KernelRfl
import Derived.Laws.Externs
/- The functions of the program below scenes, each told by a function on data. No conditions. -/
set_option linter.unusedSimpArgs false
set_option linter.unusedVariables false
set_option maxRecDepth 100000
set_option maxHeartbeats 0
noncomputable section
namespace Go.DI.S
open Go.Proofs
def eqT:TypeId→Option (List (TypeId×Nat))
 | 48=>some [(46,0),(46,1)]
 | 64=>some [(3,0),(48,1),(46,3),(48,4),(48,6)]
 | 66=>some [(3,0),(3,1),(46,2)]
 | 91=>some [(3,0),(9,1),(9,2)]
 | _=>none
def noCode:List Nat:=[0,1,95,96,171,256,329]
def isFnT (g:Nat):Bool:=Nat.blt g 340&&!(noCode.any (Nat.beq g))
def CTp (p:Nat):Cfg:=⟨Tryz.prog,isFnT,eqT,p⟩
abbrev CT:Cfg:=CTp 0
abbrev I:=Ty.int .i64
abbrev tF:=Ty.flt .f64
abbrev tVec:Ty:=.pair I I
abbrev tBody:Ty:=.pair I (.pair tVec (.pair I (.pair tVec tVec)))
abbrev tJoint:Ty:=.pair I (.pair I I)
abbrev tThing:Ty:=.pair I (.pair I (.pair tBody (.pair tJoint (.list I))))
abbrev tScene:Ty:=.pair tVec (.pair I (.list tThing))
abbrev tWorld:Ty:=.pair tVec (.pair (.list tBody) (.list tJoint))
abbrev tHit:Ty:=.pair tVec I
abbrev tBox:Ty:=.pair tVec tVec
abbrev tPair:Ty:=.pair I I
abbrev tOrder:Ty:=.pair I (.pair I (.pair I (.pair I (.pair tF (.pair tF (.pair tF (.pair tF (.pair tF (.pair I (.pair I (.list I)))))))))))
abbrev tFive:Ty:=.pair I (.pair I (.pair I (.pair I I)))
abbrev tWorker:Ty:=.pair tScene (.pair tOrder tFive)
abbrev Vec:=tVec.El
abbrev Body:=tBody.El
abbrev Joint:=tJoint.El
abbrev Thing:=tThing.El
abbrev Scene:=tScene.El
abbrev World':=tWorld.El
abbrev Pair:=tPair.El
abbrev Order:=tOrder.El
abbrev tDelta:Ty:=.pair I (.pair .str .str)
abbrev tEntry:Ty:=.pair (.list tDelta) (.pair .bool (.pair tVec (.pair tVec (.pair I I))))
def tyT:TypeId→Option Ty
 | 3=>some I
 | 4=>some .bool
 | 5=>some (.int .u8)
 | 48=>some tVec
 | 64=>some tBody
 | 66=>some tJoint
 | 68=>some tThing
 | 25=>some tOrder
 | 87=>some tEntry
 | 91=>some tDelta
 | 179=>some tPair
 | _=>none
def mpT:TypeId→Option (Ty×Ty)
 | 228=>some (I,I)
 | 244=>some (I,I)
 | 189=>some (I,.bool)
 | 81=>some (I,.str)
 | _=>none
def slotR (s:AS)(t:Nat):Nat:=match s.r[t]? with
 | some (.ptr k _)=>k
 | some (.map k)=>k
 | some (.orow _ k)=>k
 | some (.own _ k _ _)=>k
 | _=>0
def slotC (s:AS)(t o:Nat):Nat:=match s.r[t]? with
 | some (.ptr k _)=>match s.h[k]? with
  | some (some (.cells _ cs))=>match cs[o]? with
   | some (.orow _ j)=>j
   | some (.map j)=>j
   | some (.ptr j _)=>j
   | _=>0
  | _=>0
 | _=>0
def slotH (s:AS)(k o:Nat):Nat:=match s.h[k]? with
 | some (some (.cells _ cs))=>match cs[o]? with
  | some (.orow _ j)=>j
  | some (.map j)=>j
  | some (.ptr j _)=>j
  | _=>0
 | _=>0
def slotF (s:AS)(t:Nat):Nat:=match s.r[t]? with
 | some (.func _ _ (.ptr k _ :: _))=>k
 | _=>0
def slotG (s:AS)(t:Nat):Nat:=slotH s (slotF s t) 0
def slotFk (s:AS)(t k:Nat):Nat:=match s.r[t]? with
 | some (.func _ _ caps)=>match caps[k]? with
  | some (.ptr j _)=>j
  | _=>0
 | _=>0
def slotHB (s:AS)(k o:Nat):Nat:=match s.h[k]? with
 | some (some (.cells _ cs))=>match cs[o]? with
  | some (.func _ (.ptr j _ :: _) _)=>j
  | _=>0
 | _=>0
def fuel:Nat:=18446744073709551616
def atLoop (c:Code)(k:Nat):Code:=match (loopsOf c).find? (fun p=>Nat.beq p.1 k) with
 | some p=>p.2
 | none=>.skip
def fnGood (g:Nat):Bool:=match Tryz.prog.funcs[g]? with
 | some f=>!(f.name == "runtime.NumGoroutine")&&!f.body.isNone
 | none=>false
theorem fnGood_all:(List.range 340).all (fun g=>noCode.any (Nat.beq g)||fnGood g)=true:=by kernel_rfl
theorem eqP:∀ t∈[48,64,66,91],(Tryz.prog.stoodInHeld t=false∧Tryz.prog.eqGuardType Tryz.prog.depth t=false∧Tryz.prog.underlying t=some (.struct (Tryz.prog.fieldsOf t)) ∧
  some (((Tryz.prog.fieldsOf t).toList.filter (fun f=>decide (f.name ≠ "_"))).map (fun f=>(f.type,f.offset)))=eqT t):=by
 intro t ht
 simp only [List.mem_cons,List.mem_nil_iff,or_false] at ht
 rcases ht with rfl | rfl | rfl | rfl
 ·exact⟨by kernel_rfl,by kernel_rfl,by kernel_rfl,by kernel_rfl⟩
 ·exact⟨by kernel_rfl,by kernel_rfl,by kernel_rfl,by kernel_rfl⟩
 ·exact⟨by kernel_rfl,by kernel_rfl,by kernel_rfl,by kernel_rfl⟩
 ·exact⟨by kernel_rfl,by kernel_rfl,by kernel_rfl,by kernel_rfl⟩
theorem CTp_ok (p:Nat):(CTp p).Ok where
 fn:=by
  intro g hg
  have hg:(g<340)∧(noCode.any (Nat.beq g))=false:=by
   have hg:(Nat.blt g 340&&!(noCode.any (Nat.beq g)))=true:=hg
   rw [Bool.and_eq_true,Nat.blt_eq] at hg
   exact⟨hg.1,by simpa only [Bool.not_eq_true'] using hg.2⟩
  have h:=List.all_eq_true.1 fnGood_all g (List.mem_range.2 hg.1)
  rw [hg.2,Bool.false_or] at h
  unfold fnGood at h
  show ∃ f,Tryz.prog.funcs[g]?=some f∧_
  split at h
  ·rename_i f hf
   refine⟨f,hf,?_⟩
   simpa using h
  ·cases h
 eq:=by
  intro t l h
  have ht:t∈[48,64,66,91]:=by
   have h:eqT t=some l:=h
   unfold eqT at h
   split at h <;> first | (simp;done) | cases h
  obtain⟨h1,h2,h3,h4⟩:=eqP t ht
  refine⟨h1,h2,h3,?_⟩
  have h:eqT t=some l:=h
  rw [h] at h4
  exact Option.some.inj h4
 mixed:=by kernel_rfl
theorem CT_ok:CT.Ok:=CTp_ok 0
theorem tb {l:List Ent}(h:EntsOk CT.P l):(mkTb tyT mpT l).Ok CT.P:=mkTb_ok h
def fbA {β:Type}(args:List AV)(K:AV→Option β):Option β:=match args with
 | [.int .u64 n]=>K (.flt .f64 n.toNat)
 | _=>none
def bfA {β:Type}(args:List AV)(K:AV→Option β):Option β:=match args with
 | [.flt .f64 b]=>K (.int .u64 b)
 | _=>none
def fNum (b:Nat):Bool:=match FloatKind.f64.decode b with
 | .nan _ _=>false
 | _=>true
def fRnd (b:Nat):Nat:=FloatKind.f64.encode ((FloatKind.f64.decode b).integral .even)
def rdA {β:Type}(args:List AV)(K:AV→Option β):Option β:=match args with
 | [.flt .f64 b]=>bif fNum b then K (.flt .f64 (fRnd b)) else none
 | _=>none
def E_fb:Ent:=.ext 95 ⟨fun args K=>fbA args K⟩
def E_bf:Ent:=.ext 96 ⟨fun args K=>bfA args K⟩
def E_rd:Ent:=.ext 171 ⟨fun args K=>rdA args K⟩
theorem e_fb:E_fb.Ok CT.P:=by
 intro β args K z h
 have h:fbA args K=some z:=h
 unfold fbA at h
 split at h
 ·rename_i n _
  refine⟨_,h,fun w R ρ us hv=>?_⟩
  obtain⟨u1,us1,e1,v1,k1⟩:=hv.cons_inv
  obtain rfl:=k1.nil_inv
  cases v1
  have hu:us=#[.int .u64 n]:=Array.toList_inj.1 (by simpa using e1)
  subst hu
  refine⟨_,?_,.flt _ _⟩
  show(callFunc 95 _).run Tryz.prog w=_
  rw [run_callFunc_extern Tryz.func95 (by kernel_rfl) (by kernel_rfl) (by kernel_rfl) (e:=Extern.MathFloatBits.float64frombits) (by kernel_rfl)]
  rfl
 ·cases h
theorem e_bf:E_bf.Ok CT.P:=by
 intro β args K z h
 have h:bfA args K=some z:=h
 unfold bfA at h
 split at h
 ·rename_i n _
  refine⟨_,h,fun w R ρ us hv=>?_⟩
  obtain⟨u1,us1,e1,v1,k1⟩:=hv.cons_inv
  obtain rfl:=k1.nil_inv
  cases v1
  have hu:us=#[.float .f64 n]:=Array.toList_inj.1 (by simpa using e1)
  subst hu
  refine⟨_,?_,.int _ _⟩
  show(callFunc 96 _).run Tryz.prog w=_
  rw [run_callFunc_extern Tryz.func96 (by kernel_rfl) (by kernel_rfl) (by kernel_rfl) (e:=Extern.MathFloatBits.float64bits) (by kernel_rfl)]
  rfl
 ·cases h
theorem e_rd:E_rd.Ok CT.P:=by
 intro β args K z h
 have h:rdA args K=some z:=h
 unfold rdA at h
 split at h
 ·rename_i n _
  cases hn:fNum n with
  | false=>rw [hn] at h;cases h
  | true=>
   rw [hn] at h
   refine⟨_,h,fun w R ρ us hv=>?_⟩
   obtain⟨u1,us1,e1,v1,k1⟩:=hv.cons_inv
   obtain rfl:=k1.nil_inv
   cases v1
   have hu:us=#[.float .f64 n]:=Array.toList_inj.1 (by simpa using e1)
   subst hu
   refine⟨_,?_,.flt _ _⟩
   show(callFunc 171 _).run Tryz.prog w=_
   rw [run_callFunc_extern Tryz.func171 (by kernel_rfl) (by kernel_rfl) (by kernel_rfl) (e:=Extern.MathFloor.toIntegral "math.RoundToEven" .even) (by kernel_rfl)]
   unfold fNum at hn
   unfold fRnd
   have:(Extern.MathFloor.toIntegral "math.RoundToEven" .even #[.float .f64 n]).run Tryz.prog w=.ok (.float .f64 (FloatKind.f64.encode ((FloatKind.f64.decode n).integral .even))) w:=by
    delta Extern.MathFloor.toIntegral
    show Sem.run Tryz.prog ((fun x=>_) n) w=_
    cases hd:FloatKind.f64.decode n with
    | nan s t=>rw [hd] at hn;cases hn
    | infinity s=>rfl
    | number s m e=>rfl
   rw [this];rfl
 ·cases h
def F_19  : Option (Els [tScene]):=some ((((0:Int),(0:Int)),(1:Int),[]),())
def E_19:Ent:=.fn 39 [] ⟨[],[tScene],fun x=>F_19,false⟩
theorem e_19:E_19.Ok CT.P:=fn0 CT_ok (tb (l:=[]) trivial) Tryz.f39 (by kernel_rfl) (by kernel_rfl) (by kernel_rfl) fun x=>by kernel_rfl
def F_86 (a1:Ty.El I):Option (Els [.bool]):=bif decide (a1≥(1:Int)) then some (decide (a1≤(1000000:Int)),()) else some (false,())
def E_86:Ent:=.fn 151 [] ⟨[.ty I],[.bool],fun x=>F_86 x.1,false⟩
theorem e_86:E_86.Ok CT.P:=fn0 CT_ok (tb (l:=[]) trivial) Tryz.f151 (by kernel_rfl) (by kernel_rfl) (by kernel_rfl) fun x=>by kernel_rfl
def F_87 (a1:Ty.El tThing):Option (Els [.bool]):=bif a1.2.1==(1:Int) then bif a1.2.2.2.1.1==(0:Int)&&(a1.2.2.2.1.2.1==(0:Int)&&(a1.2.2.2.1.2.2==(0:Int)&&true)) then some (↑(List.length a1.2.2.2.2)==(0:Int),()) else some (false,()) else bif a1.2.1==(2:Int) then bif a1.2.2.1.1==(0:Int)&&(a1.2.2.1.2.1.1==(0:Int)&&(a1.2.2.1.2.1.2==(0:Int)&&true)&&(a1.2.2.1.2.2.1==(0:Int)&&(a1.2.2.1.2.2.2.1.1==(0:Int)&&(a1.2.2.1.2.2.2.1.2==(0:Int)&&true)&&(a1.2.2.1.2.2.2.2.1==(0:Int)&&(a1.2.2.1.2.2.2.2.2==(0:Int)&&true)&&true)))) then some (↑(List.length a1.2.2.2.2)==(0:Int),()) else some (false,()) else bif a1.2.2.1.1==(0:Int)&&(a1.2.2.1.2.1.1==(0:Int)&&(a1.2.2.1.2.1.2==(0:Int)&&true)&&(a1.2.2.1.2.2.1==(0:Int)&&(a1.2.2.1.2.2.2.1.1==(0:Int)&&(a1.2.2.1.2.2.2.1.2==(0:Int)&&true)&&(a1.2.2.1.2.2.2.2.1==(0:Int)&&(a1.2.2.1.2.2.2.2.2==(0:Int)&&true)&&true)))) then some (a1.2.2.2.1.1==(0:Int)&&(a1.2.2.2.1.2.1==(0:Int)&&(a1.2.2.2.1.2.2==(0:Int)&&true)),()) else some (false,())
def E_87:Ent:=.fn 163 [] ⟨[.ty tThing],[.bool],fun x=>F_87 x.1,false⟩
theorem e_87:E_87.Ok CT.P:=fn0 CT_ok (tb (l:=[]) trivial) Tryz.f163 (by kernel_rfl) (by kernel_rfl) (by kernel_rfl) fun x=>by kernel_rfl
def F_125 (a1:Ty.El I):Option (Els [.str]):=bif a1==(1:Int) then some ([98,97,108,108],()) else bif a1==(2:Int) then some ([99,114,97,116,101],()) else some ([],())
def E_125:Ent:=.fn 214 [] ⟨[.ty I],[.str],fun x=>F_125 x.1,false⟩
theorem e_125:E_125.Ok CT.P:=fn0 CT_ok (tb (l:=[]) trivial) Tryz.f214 (by kernel_rfl) (by kernel_rfl) (by kernel_rfl) fun x=>by kernel_rfl
def F_126 (a1:Ty.El I)(a2:Ty.El I)(a3:Ty.El I):Option (Els [.bool]):=bif decide (a1≥a2) then some (decide (a1≤a3),()) else some (false,())
def E_126:Ent:=.fn 215 [] ⟨[.ty I,.ty I,.ty I],[.bool],fun x=>F_126 x.1 x.2.1 x.2.2.1,false⟩
theorem e_126:E_126.Ok CT.P:=fn0 CT_ok (tb (l:=[]) trivial) Tryz.f215 (by kernel_rfl) (by kernel_rfl) (by kernel_rfl) fun x=>by kernel_rfl
def F_127 (a1:Ty.El tVec)(a2:Ty.El I):Option (Els [.bool]):=(F_126 a1.1 (IntKind.i64.wrap ((0:Int)-a2)) a2).bind fun v1=>bif v1.1 then(F_126 a1.2 (IntKind.i64.wrap ((0:Int)-a2)) a2).bind fun v3=>some (v3.1,()) else some (false,())
def E_127:Ent:=.fn 216 [] ⟨[.ty tVec,.ty I],[.bool],fun x=>F_127 x.1 x.2.1,false⟩
theorem e_127:E_127.Ok CT.P:=fn0 CT_ok (tb (l:=[E_126]) ⟨e_126,trivial⟩) Tryz.f216 (by kernel_rfl) (by kernel_rfl) (by kernel_rfl) fun x=>by kernel_rfl
def F_88 (a1:Ty.El tBody):Option (Els [.bool]):=(F_125 a1.1).bind fun v1=>bif v1.1==[] then some (false,()) else(F_126 a1.2.1.1 (67108864:Int) (4294967296000:Int)).bind fun v3=>bif !v3.1 then some (false,()) else bif a1.1==(1:Int) then bif a1.2.1.2 != (0:Int) then some (false,()) else bif a1.1==(2:Int) then(F_126 a1.2.1.2 (67108864:Int) (4294967296000:Int)).bind fun v8=>bif !v8.1 then some (false,()) else bif a1.2.2.1==(0:Int) then bif !(a1.2.2.2.2.1==(0:Int)&&(a1.2.2.2.2.2==(0:Int)&&true)) then some (false,()) else bif a1.2.2.1 != (0:Int) then(F_126 a1.2.2.1 (67108864:Int) (42949672960000:Int)).bind fun v13=>bif !v13.1 then some (false,()) else(F_127 a1.2.2.2.1 (42949672960000:Int)).bind fun v15=>bif v15.1 then(F_127 a1.2.2.2.2 (4294967296000000:Int)).bind fun v17=>some (v17.1,()) else some (false,()) else(F_127 a1.2.2.2.1 (42949672960000:Int)).bind fun v18=>bif v18.1 then(F_127 a1.2.2.2.2 (4294967296000000:Int)).bind fun v20=>some (v20.1,()) else some (false,()) else bif a1.2.2.1 != (0:Int) then(F_126 a1.2.2.1 (67108864:Int) (42949672960000:Int)).bind fun v22=>bif !v22.1 then some (false,()) else(F_127 a1.2.2.2.1 (42949672960000:Int)).bind fun v24=>bif v24.1 then(F_127 a1.2.2.2.2 (4294967296000000:Int)).bind fun v26=>some (v26.1,()) else some (false,()) else(F_127 a1.2.2.2.1 (42949672960000:Int)).bind fun v27=>bif v27.1 then(F_127 a1.2.2.2.2 (4294967296000000:Int)).bind fun v29=>some (v29.1,()) else some (false,()) else bif a1.2.2.1==(0:Int) then bif !(a1.2.2.2.2.1==(0:Int)&&(a1.2.2.2.2.2==(0:Int)&&true)) then some (false,()) else bif a1.2.2.1 != (0:Int) then(F_126 a1.2.2.1 (67108864:Int) (42949672960000:Int)).bind fun v33=>bif !v33.1 then some (false,()) else(F_127 a1.2.2.2.1 (42949672960000:Int)).bind fun v35=>bif v35.1 then(F_127 a1.2.2.2.2 (4294967296000000:Int)).bind fun v37=>some (v37.1,()) else some (false,()) else(F_127 a1.2.2.2.1 (42949672960000:Int)).bind fun v38=>bif v38.1 then(F_127 a1.2.2.2.2 (4294967296000000:Int)).bind fun v40=>some (v40.1,()) else some (false,()) else bif a1.2.2.1 != (0:Int) then(F_126 a1.2.2.1 (67108864:Int) (42949672960000:Int)).bind fun v42=>bif !v42.1 then some (false,()) else(F_127 a1.2.2.2.1 (42949672960000:Int)).bind fun v44=>bif v44.1 then(F_127 a1.2.2.2.2 (4294967296000000:Int)).bind fun v46=>some (v46.1,()) else some (false,()) else(F_127 a1.2.2.2.1 (42949672960000:Int)).bind fun v47=>bif v47.1 then(F_127 a1.2.2.2.2 (4294967296000000:Int)).bind fun v49=>some (v49.1,()) else some (false,()) else bif a1.1==(2:Int) then(F_126 a1.2.1.2 (67108864:Int) (4294967296000:Int)).bind fun v51=>bif !v51.1 then some (false,()) else bif a1.2.2.1==(0:Int) then bif !(a1.2.2.2.2.1==(0:Int)&&(a1.2.2.2.2.2==(0:Int)&&true)) then some (false,()) else bif a1.2.2.1 != (0:Int) then(F_126 a1.2.2.1 (67108864:Int) (42949672960000:Int)).bind fun v56=>bif !v56.1 then some (false,()) else(F_127 a1.2.2.2.1 (42949672960000:Int)).bind fun v58=>bif v58.1 then(F_127 a1.2.2.2.2 (4294967296000000:Int)).bind fun v60=>some (v60.1,()) else some (false,()) else(F_127 a1.2.2.2.1 (42949672960000:Int)).bind fun v61=>bif v61.1 then(F_127 a1.2.2.2.2 (4294967296000000:Int)).bind fun v63=>some (v63.1,()) else some (false,()) else bif a1.2.2.1 != (0:Int) then(F_126 a1.2.2.1 (67108864:Int) (42949672960000:Int)).bind fun v65=>bif !v65.1 then some (false,()) else(F_127 a1.2.2.2.1 (42949672960000:Int)).bind fun v67=>bif v67.1 then(F_127 a1.2.2.2.2 (4294967296000000:Int)).bind fun v69=>some (v69.1,()) else some (false,()) else(F_127 a1.2.2.2.1 (42949672960000:Int)).bind fun v70=>bif v70.1 then(F_127 a1.2.2.2.2 (4294967296000000:Int)).bind fun v72=>some (v72.1,()) else some (false,()) else bif a1.2.2.1==(0:Int) then bif !(a1.2.2.2.2.1==(0:Int)&&(a1.2.2.2.2.2==(0:Int)&&true)) then some (false,()) else bif a1.2.2.1 != (0:Int) then(F_126 a1.2.2.1 (67108864:Int) (42949672960000:Int)).bind fun v76=>bif !v76.1 then some (false,()) else(F_127 a1.2.2.2.1 (42949672960000:Int)).bind fun v78=>bif v78.1 then(F_127 a1.2.2.2.2 (4294967296000000:Int)).bind fun v80=>some (v80.1,()) else some (false,()) else(F_127 a1.2.2.2.1 (42949672960000:Int)).bind fun v81=>bif v81.1 then(F_127 a1.2.2.2.2 (4294967296000000:Int)).bind fun v83=>some (v83.1,()) else some (false,()) else bif a1.2.2.1 != (0:Int) then(F_126 a1.2.2.1 (67108864:Int) (42949672960000:Int)).bind fun v85=>bif !v85.1 then some (false,()) else(F_127 a1.2.2.2.1 (42949672960000:Int)).bind fun v87=>bif v87.1 then(F_127 a1.2.2.2.2 (4294967296000000:Int)).bind fun v89=>some (v89.1,()) else some (false,()) else(F_127 a1.2.2.2.1 (42949672960000:Int)).bind fun v90=>bif v90.1 then(F_127 a1.2.2.2.2 (4294967296000000:Int)).bind fun v92=>some (v92.1,()) else some (false,())
def E_88:Ent:=.fn 164 [] ⟨[.ty tBody],[.bool],fun x=>F_88 x.1,false⟩
theorem e_88:E_88.Ok CT.P:=fn0 CT_ok (tb (l:=[E_125,E_126,E_127]) ⟨e_125,e_126,e_127,trivial⟩) Tryz.f164 (by kernel_rfl) (by kernel_rfl) (by kernel_rfl) fun x=>by kernel_rfl
def c_89:Code:=Tryz.f165.body.getD .skip
def T_89:Tb:=mkTb tyT mpT [E_86]
theorem T_89_ok:T_89.Ok CT.P:=mkTb_ok (⟨e_86,trivial⟩)
def l_89_3:Code:=atLoop c_89 3
abbrev LD_89_3:LayD:=⟨39,[(1,.ptr 0),(3,.data I),(7,.data (.list I)),(8,.data I),(9,.data I)],[.var 68 [.data tThing]],fun s=>[slotR s 1]⟩
abbrev LA_89_3:LayD:=⟨39,[(1,.ptr 0)],[.var 68 [.data tThing]],fun s=>[slotR s 1]⟩
abbrev LB_89_3:LayD:=⟨39,[(2,.data .bool)],[],fun _=>[]⟩
def EX_89_3:Exits 0 LA_89_3.El LB_89_3.El:=⟨.exit 0,LA_89_3.lay [],.ret,LB_89_3.lay []⟩
def G_89_3 (r3:Ty.El I)(r7:Ty.El (.list I))(r8:Ty.El I)(r9:Ty.El I)(b0:Ty.El tThing×Unit):Option (LD_89_3.El⊕(LA_89_3.El⊕LB_89_3.El)):=bif decide (r9<r8) then bif decide ((0:Int)≤r9∧r9<↑(List.length r7)) then bif decide (List.getD r7 (Int.toNat r9) (0:Int)≤r3) then some (Sum.inr (Sum.inr ((false,()),()))) else(F_86 (List.getD r7 (Int.toNat r9) (0:Int))).bind fun v4=>bif !v4.1 then some (Sum.inr (Sum.inr ((false,()),()))) else bif List.getD r7 (Int.toNat r9) (0:Int)==b0.1.1 then some (Sum.inr (Sum.inr ((false,()),()))) else some (Sum.inl (((),List.getD r7 (Int.toNat r9) (0:Int),r7,r8,IntKind.i64.wrap (r9+(1:Int)),()),(b0.1,()),())) else none else some (Sum.inr (Sum.inl (((),()),(b0.1,()),())))
theorem g_89_3 (x:LD_89_3.El):codeT CT T_89 (drT CT T_89) lp0 l_89_3 (LD_89_3.enc x) (bodyK (LD_89_3.lay []) EX_89_3)=G_89_3 x.1.2.1 x.1.2.2.1 x.1.2.2.2.1 x.1.2.2.2.2.1 x.2.1:=by kernel_rfl
def R_89_3:LD_89_3.El→Option (LA_89_3.El⊕LB_89_3.El):=roundsT (fun x=>G_89_3 x.1.2.1 x.1.2.2.1 x.1.2.2.2.1 x.1.2.2.2.2.1 x.2.1) fuel
def lp_89 {β:Type}:LpT β:=fun k s K=>if Nat.beq k 3 then lpOne (LD_89_3.lay []) EX_89_3 R_89_3 s K else none
theorem lp_89_ok {β:Type}:LpTOk CT (lp_89 (β:=β)) (loopsOf c_89):=LpTOk.is [(3,l_89_3)] (by kernel_rfl) (LpTOk.cons (fun s K z h=>lpG CT_ok T_89_ok (lp0_ok (by kernel_rfl)) (L:=LD_89_3.lay []) (E:=EX_89_3) g_89_3 rfl rfl rfl rfl h) (LpTOk.nil))
def F_89 (a1:Ty.El tThing):Option (Els [.bool]):=(R_89_3 (((),(0:Int),a1.2.2.2.2,↑(List.length a1.2.2.2.2),(0:Int),()),(a1,()),())).bind fun v1=>Sum.elim (fun v2=>bif decide (↑(List.length v2.2.1.1.2.2.2.2)≥(1:Int)) then some (decide (↑(List.length v2.2.1.1.2.2.2.2)≤(8:Int)),()) else some (false,())) (fun v4=>some (v4.1.1,())) v1
theorem f_89 (x:Ps [.ty tThing]):funcT CT T_89 [.bool] (drT CT T_89) lp_89 Tryz.f165 c_89 (encPs [.ty tThing] x)=F_89 x.1:=by kernel_rfl
def E_89:Ent:=.fn 165 [] ⟨[.ty tThing],[.bool],fun x=>F_89 x.1,false⟩
theorem e_89:E_89.Ok CT.P:=Ent.ofFn CT_ok T_89_ok (by kernel_rfl) (by kernel_rfl) lp_89_ok f_89
def F_45 (a1:Ty.El tThing):Option (Els [.bool]):=(F_86 a1.1).bind fun v1=>bif !v1.1 then some (false,()) else(F_87 a1).bind fun v3=>bif !v3.1 then some (false,()) else bif a1.2.1==(1:Int) then(F_88 a1.2.2.1).bind fun v6=>some (v6.1,()) else bif a1.2.1==(2:Int) then(F_86 a1.2.2.2.1.1).bind fun v8=>bif v8.1 then(F_86 a1.2.2.2.1.2.1).bind fun v10=>bif v10.1 then bif a1.2.2.2.1.1 != a1.2.2.2.1.2.1 then bif decide (a1.2.2.2.1.2.2≥(0:Int)) then some (decide (a1.2.2.2.1.2.2≤(4294967296000:Int)),()) else some (false,()) else some (false,()) else some (false,()) else some (false,()) else bif a1.2.1==(3:Int) then(F_89 a1).bind fun v15=>some (v15.1,()) else some (false,())
def E_45:Ent:=.fn 124 [] ⟨[.ty tThing],[.bool],fun x=>F_45 x.1,false⟩
theorem e_45:E_45.Ok CT.P:=fn0 CT_ok (tb (l:=[E_86,E_87,E_88,E_89]) ⟨e_86,e_87,e_88,e_89,trivial⟩) Tryz.f124 (by kernel_rfl) (by kernel_rfl) (by kernel_rfl) fun x=>by kernel_rfl
def F_130 (a1:Ty.El I):Option (Els [.bool]):=bif decide (a1≥(-4294967296000:Int)) then some (decide (a1≤(4294967296000:Int)),()) else some (false,())
def E_130:Ent:=.fn 166 [] ⟨[.ty I],[.bool],fun x=>F_130 x.1,false⟩
theorem e_130:E_130.Ok CT.P:=fn0 CT_ok (tb (l:=[]) trivial) Tryz.f166 (by kernel_rfl) (by kernel_rfl) (by kernel_rfl) fun x=>by kernel_rfl
def c_99:Code:=Tryz.f125.body.getD .skip
def T_99:Tb:=mkTb tyT mpT [E_88,E_130]
theorem T_99_ok:T_99.Ok CT.P:=mkTb_ok (⟨e_88,e_130,trivial⟩)
def l_99_8:Code:=atLoop c_99 8
def l_99_2:Code:=atLoop c_99 2
abbrev LD_99_2:LayD:=⟨70,[(1,.ptr 0),(8,.data (.list tBody)),(9,.data I),(10,.data I)],[.var 186 [.data tWorld]],fun s=>[slotR s 1]⟩
abbrev LA_99_2:LayD:=⟨70,[(1,.ptr 0)],[.var 186 [.data tWorld]],fun s=>[slotR s 1]⟩
abbrev LB_99_2:LayD:=⟨70,[(2,.data .bool)],[],fun _=>[]⟩
def EX_99_2:Exits 0 LA_99_2.El LB_99_2.El:=⟨.exit 0,LA_99_2.lay [],.ret,LB_99_2.lay []⟩
def G_99_2 (r8:Ty.El (.list tBody))(r9:Ty.El I)(r10:Ty.El I)(b0:Ty.El tWorld×Unit):Option (LD_99_2.El⊕(LA_99_2.El⊕LB_99_2.El)):=bif decide (r10<r9) then bif decide ((0:Int)≤r10∧r10<↑(List.length r8)) then(F_88 (List.getD r8 (Int.toNat r10) tBody.dflt)).bind fun v3=>bif !v3.1 then some (Sum.inr (Sum.inr ((false,()),()))) else some (Sum.inl (((),r8,r9,IntKind.i64.wrap (r10+(1:Int)),()),(b0.1,()),())) else none else some (Sum.inr (Sum.inl (((),()),(b0.1,()),())))
theorem g_99_2 (x:LD_99_2.El):codeT CT T_99 (drT CT T_99) lp0 l_99_2 (LD_99_2.enc x) (bodyK (LD_99_2.lay []) EX_99_2)=G_99_2 x.1.2.1 x.1.2.2.1 x.1.2.2.2.1 x.2.1:=by kernel_rfl
def R_99_2:LD_99_2.El→Option (LA_99_2.El⊕LB_99_2.El):=roundsT (fun x=>G_99_2 x.1.2.1 x.1.2.2.1 x.1.2.2.2.1 x.2.1) fuel
abbrev LD_99_8:LayD:=⟨70,[(1,.ptr 0),(19,.data (.list tJoint)),(20,.data I),(21,.data I)],[.var 186 [.data tWorld]],fun s=>[slotR s 1]⟩
abbrev LA_99_8:LayD:=⟨70,[(1,.ptr 0)],[.var 186 [.data tWorld]],fun s=>[slotR s 1]⟩
abbrev LB_99_8:LayD:=⟨70,[(2,.data .bool)],[],fun _=>[]⟩
def EX_99_8:Exits 0 LA_99_8.El LB_99_8.El:=⟨.exit 2,LA_99_8.lay [],.ret,LB_99_8.lay []⟩
def G_99_8 (r19:Ty.El (.list tJoint))(r20:Ty.El I)(r21:Ty.El I)(b0:Ty.El tWorld×Unit):Option (LD_99_8.El⊕(LA_99_8.El⊕LB_99_8.El)):=bif decide (r21<r20) then bif decide ((0:Int)≤r21∧r21<↑(List.length r19)) then bif decide ((if(List.getD r19 (Int.toNat r21) tJoint.dflt).2.1<(List.getD r19 (Int.toNat r21) tJoint.dflt).1 then(List.getD r19 (Int.toNat r21) tJoint.dflt).2.1 else(List.getD r19 (Int.toNat r21) tJoint.dflt).1)<(0:Int)) then some (Sum.inr (Sum.inr ((false,()),()))) else bif decide ((if(List.getD r19 (Int.toNat r21) tJoint.dflt).2.1>(List.getD r19 (Int.toNat r21) tJoint.dflt).1 then(List.getD r19 (Int.toNat r21) tJoint.dflt).2.1 else(List.getD r19 (Int.toNat r21) tJoint.dflt).1)≥↑(List.length b0.1.2.1)) then some (Sum.inr (Sum.inr ((false,()),()))) else bif(List.getD r19 (Int.toNat r21) tJoint.dflt).1==(List.getD r19 (Int.toNat r21) tJoint.dflt).2.1 then some (Sum.inr (Sum.inr ((false,()),()))) else bif decide ((List.getD r19 (Int.toNat r21) tJoint.dflt).2.2<(0:Int)) then some (Sum.inr (Sum.inr ((false,()),()))) else bif decide ((List.getD r19 (Int.toNat r21) tJoint.dflt).2.2>(4294967296000:Int)) then some (Sum.inr (Sum.inr ((false,()),()))) else some (Sum.inl (((),r19,r20,IntKind.i64.wrap (r21+(1:Int)),()),(b0.1,()),())) else none else some (Sum.inr (Sum.inl (((),()),(b0.1,()),())))
theorem g_99_8 (x:LD_99_8.El):codeT CT T_99 (drT CT T_99) lp0 l_99_8 (LD_99_8.enc x) (bodyK (LD_99_8.lay []) EX_99_8)=G_99_8 x.1.2.1 x.1.2.2.1 x.1.2.2.2.1 x.2.1:=by kernel_rfl
def R_99_8:LD_99_8.El→Option (LA_99_8.El⊕LB_99_8.El):=roundsT (fun x=>G_99_8 x.1.2.1 x.1.2.2.1 x.1.2.2.2.1 x.2.1) fuel
def lp_99 {β:Type}:LpT β:=fun k s K=>if Nat.beq k 2 then lpOne (LD_99_2.lay []) EX_99_2 R_99_2 s K else if Nat.beq k 8 then lpOne (LD_99_8.lay []) EX_99_8 R_99_8 s K else none
theorem lp_99_ok {β:Type}:LpTOk CT (lp_99 (β:=β)) (loopsOf c_99):=LpTOk.is [(2,l_99_2),(8,l_99_8)] (by kernel_rfl) (LpTOk.cons (fun s K z h=>lpG CT_ok T_99_ok (lp0_ok (by kernel_rfl)) (L:=LD_99_2.lay []) (E:=EX_99_2) g_99_2 rfl rfl rfl rfl h) (LpTOk.cons (fun s K z h=>lpG CT_ok T_99_ok (lp0_ok (by kernel_rfl)) (L:=LD_99_8.lay []) (E:=EX_99_8) g_99_8 rfl rfl rfl rfl h) (LpTOk.nil)))
def F_99 (a1:Ty.El tWorld):Option (Els [.bool]):=(R_99_2 (((),a1.2.1,↑(List.length a1.2.1),(0:Int),()),(a1,()),())).bind fun v1=>Sum.elim (fun v2=>(R_99_8 (((),v2.2.1.1.2.2,↑(List.length v2.2.1.1.2.2),(0:Int),()),(v2.2.1.1,()),())).bind fun v3=>Sum.elim (fun v4=>(F_130 v4.2.1.1.1.1).bind fun v5=>bif v5.1 then(F_130 v4.2.1.1.1.2).bind fun v7=>some (v7.1,()) else some (false,())) (fun v8=>some (v8.1.1,())) v3) (fun v9=>some (v9.1.1,())) v1
theorem f_99 (x:Ps [.ty tWorld]):funcT CT T_99 [.bool] (drT CT T_99) lp_99 Tryz.f125 c_99 (encPs [.ty tWorld] x)=F_99 x.1:=by kernel_rfl
def E_99:Ent:=.fn 125 [] ⟨[.ty tWorld],[.bool],fun x=>F_99 x.1,false⟩
theorem e_99:E_99.Ok CT.P:=Ent.ofFn CT_ok T_99_ok (by kernel_rfl) (by kernel_rfl) lp_99_ok f_99
def E_99h:Ent:=.fn 125 [] ⟨[.ty tWorld],[.bool],fun x=>F_99 x.1,true⟩
def c_54:Code:=Tryz.f85.body.getD .skip
def T_54:Tb:=mkTb tyT mpT [E_45,E_99]
theorem T_54_ok:T_54.Ok CT.P:=mkTb_ok (⟨e_45,e_99,trivial⟩)
def l_54_3:Code:=atLoop c_54 3
abbrev LD_54_3:LayD:=⟨52,[(1,.ptr 0),(3,.data I),(7,.data (.list tThing)),(8,.data I),(9,.data I)],[.var 51 [.data tScene]],fun s=>[slotR s 1]⟩
abbrev LA_54_3:LayD:=⟨52,[(1,.ptr 0)],[.var 51 [.data tScene]],fun s=>[slotR s 1]⟩
abbrev LB_54_3:LayD:=⟨52,[(2,.data .bool)],[],fun _=>[]⟩
def EX_54_3:Exits 0 LA_54_3.El LB_54_3.El:=⟨.exit 0,LA_54_3.lay [],.ret,LB_54_3.lay []⟩
def G_54_3 (r3:Ty.El I)(r7:Ty.El (.list tThing))(r8:Ty.El I)(r9:Ty.El I)(b0:Ty.El tScene×Unit):Option (LD_54_3.El⊕(LA_54_3.El⊕LB_54_3.El)):=bif decide (r9<r8) then bif decide ((0:Int)≤r9∧r9<↑(List.length r7)) then(F_45 (List.getD r7 (Int.toNat r9) (I.pair (I.pair (tBody.pair (tJoint.pair I.list)))).dflt)).bind fun v3=>bif !v3.1 then some (Sum.inr (Sum.inr ((false,()),()))) else bif decide ((List.getD r7 (Int.toNat r9) (I.pair (I.pair (tBody.pair (tJoint.pair I.list)))).dflt).1≤r3) then some (Sum.inr (Sum.inr ((false,()),()))) else bif decide ((List.getD r7 (Int.toNat r9) (I.pair (I.pair (tBody.pair (tJoint.pair I.list)))).dflt).1≥b0.1.2.1) then some (Sum.inr (Sum.inr ((false,()),()))) else some (Sum.inl (((),(List.getD r7 (Int.toNat r9) (I.pair (I.pair (tBody.pair (tJoint.pair I.list)))).dflt).1,r7,r8,IntKind.i64.wrap (r9+(1:Int)),()),(b0.1,()),())) else none else some (Sum.inr (Sum.inl (((),()),(b0.1,()),())))
theorem g_54_3 (x:LD_54_3.El):codeT CT T_54 (drT CT T_54) lp0 l_54_3 (LD_54_3.enc x) (bodyK (LD_54_3.lay []) EX_54_3)=G_54_3 x.1.2.1 x.1.2.2.1 x.1.2.2.2.1 x.1.2.2.2.2.1 x.2.1:=by kernel_rfl
def R_54_3:LD_54_3.El→Option (LA_54_3.El⊕LB_54_3.El):=roundsT (fun x=>G_54_3 x.1.2.1 x.1.2.2.1 x.1.2.2.2.1 x.1.2.2.2.2.1 x.2.1) fuel
def lp_54 {β:Type}:LpT β:=fun k s K=>if Nat.beq k 3 then lpOne (LD_54_3.lay []) EX_54_3 R_54_3 s K else none
theorem lp_54_ok {β:Type}:LpTOk CT (lp_54 (β:=β)) (loopsOf c_54):=LpTOk.is [(3,l_54_3)] (by kernel_rfl) (LpTOk.cons (fun s K z h=>lpG CT_ok T_54_ok (lp0_ok (by kernel_rfl)) (L:=LD_54_3.lay []) (E:=EX_54_3) g_54_3 rfl rfl rfl rfl h) (LpTOk.nil))
def F_54 (a1:Ty.El tScene):Option (Els [.bool]):=(R_54_3 (((),(0:Int),a1.2.2,↑(List.length a1.2.2),(0:Int),()),(a1,()),())).bind fun v1=>Sum.elim (fun v2=>bif decide (↑(List.length v2.2.1.1.2.2)≤(40:Int)) then bif decide (v2.2.1.1.2.1≥(1:Int)) then bif decide (v2.2.1.1.2.1≤(1000001:Int)) then(F_99 (v2.2.1.1.1,[],[])).bind fun v6=>some (v6.1,()) else some (false,()) else some (false,()) else some (false,())) (fun v7=>some (v7.1.1,())) v1
theorem f_54 (x:Ps [.ty tScene]):funcT CT T_54 [.bool] (drT CT T_54) lp_54 Tryz.f85 c_54 (encPs [.ty tScene] x)=F_54 x.1:=by kernel_rfl
def E_54:Ent:=.fn 85 [] ⟨[.ty tScene],[.bool],fun x=>F_54 x.1,false⟩
theorem e_54:E_54.Ok CT.P:=Ent.ofFn CT_ok T_54_ok (by kernel_rfl) (by kernel_rfl) lp_54_ok f_54
def c_51:Code:=Tryz.f87.body.getD .skip
def T_51:Tb:=mkTb tyT mpT []
theorem T_51_ok:T_51.Ok CT.P:=mkTb_ok (trivial)
def l_51_3:Code:=atLoop c_51 3
def l_51_6:Code:=atLoop l_51_3 6
abbrev LD_51_6:LayD:=⟨30,[(3,.map 0),(10,.data (.list tThing)),(11,.data I),(12,.data I),(17,.data (.list I)),(18,.data I),(19,.data I)],[.tmap I .bool],fun s=>[slotR s 3]⟩
abbrev LA_51_6:LayD:=⟨30,[(3,.map 0),(10,.data (.list tThing)),(11,.data I),(12,.data I)],[.tmap I .bool],fun s=>[slotR s 3]⟩
abbrev LB_51_6:LayD:=⟨30,[(2,.data .bool)],[],fun _=>[]⟩
def EX_51_6:Exits 0 LA_51_6.El LB_51_6.El:=⟨.exit 2,LA_51_6.lay [],.ret,LB_51_6.lay []⟩
def G_51_6 (r10:Ty.El (.list tThing))(r11:Ty.El I)(r12:Ty.El I)(r17:Ty.El (.list I))(r18:Ty.El I)(r19:Ty.El I)(b0:List (Ty.El I×Ty.El (.bool))):Option (LD_51_6.El⊕(LA_51_6.El⊕LB_51_6.El)):=bif decide (r19<r18) then bif decide ((0:Int)≤r19∧r19<↑(List.length r17)) then bif(tget (Ty.int IntKind.i64) Ty.bool (List.getD r17 (Int.toNat r19) (0:Int)) b0).getD false then some (Sum.inr (Sum.inr ((false,()),()))) else some (Sum.inl (((),r10,r11,r12,r17,r18,IntKind.i64.wrap (r19+(1:Int)),()),tput (Ty.int IntKind.i64) Ty.bool (List.getD r17 (Int.toNat r19) (0:Int)) true b0,())) else none else some (Sum.inr (Sum.inl (((),r10,r11,r12,()),b0,())))
theorem g_51_6 (x:LD_51_6.El):codeT CT T_51 (drT CT T_51) lp0 l_51_6 (LD_51_6.enc x) (bodyK (LD_51_6.lay []) EX_51_6)=G_51_6 x.1.2.1 x.1.2.2.1 x.1.2.2.2.1 x.1.2.2.2.2.1 x.1.2.2.2.2.2.1 x.1.2.2.2.2.2.2.1 x.2.1:=by kernel_rfl
def R_51_6:LD_51_6.El→Option (LA_51_6.El⊕LB_51_6.El):=roundsT (fun x=>G_51_6 x.1.2.1 x.1.2.2.1 x.1.2.2.2.1 x.1.2.2.2.2.1 x.1.2.2.2.2.2.1 x.1.2.2.2.2.2.2.1 x.2.1) fuel
abbrev LD_51_3:LayD:=⟨30,[(3,.map 0),(10,.data (.list tThing)),(11,.data I),(12,.data I)],[.tmap I .bool],fun s=>[slotR s 3]⟩
abbrev LA_51_3:LayD:=⟨30,[],[],fun _=>[]⟩
abbrev LB_51_3:LayD:=⟨30,[(2,.data .bool)],[],fun _=>[]⟩
def EX_51_3:Exits 0 LA_51_3.El LB_51_3.El:=⟨.exit 0,LA_51_3.lay [],.ret,LB_51_3.lay []⟩
def lpi_51_3 {β:Type}:LpT β:=fun k s K=>if Nat.beq k 6 then lpOne (LD_51_6.lay []) EX_51_6 R_51_6 s K else none
theorem lpi_51_3_ok {β:Type}:LpTOk CT (lpi_51_3 (β:=β)) (loopsOf l_51_3):=LpTOk.is [(6,l_51_6)] (by kernel_rfl) (LpTOk.cons (fun s K z h=>lpG CT_ok T_51_ok (lp0_ok (by kernel_rfl)) (L:=LD_51_6.lay []) (E:=EX_51_6) g_51_6 rfl rfl rfl rfl h) (LpTOk.nil))
def G_51_3 (r10:Ty.El (.list tThing))(r11:Ty.El I)(r12:Ty.El I)(b0:List (Ty.El I×Ty.El (.bool))):Option (LD_51_3.El⊕(LA_51_3.El⊕LB_51_3.El)):=bif decide (r12<r11) then bif decide ((0:Int)≤r12∧r12<↑(List.length r10)) then(R_51_6 (((),r10,r11,r12,(List.getD r10 (Int.toNat r12) (I.pair (I.pair (tBody.pair (tJoint.pair I.list)))).dflt).2.2.2.2,↑(List.length (List.getD r10 (Int.toNat r12) (I.pair (I.pair (tBody.pair (tJoint.pair I.list)))).dflt).2.2.2.2),(0:Int),()),b0,())).bind fun v3=>Sum.elim (fun v4=>some (Sum.inl (((),v4.1.2.1,v4.1.2.2.1,IntKind.i64.wrap (v4.1.2.2.2.1+(1:Int)),()),v4.2.1,()))) (fun v5=>some (Sum.inr (Sum.inr ((v5.1.1,()),())))) v3 else none else some (Sum.inr (Sum.inl ((),())))
theorem g_51_3 (x:LD_51_3.El):codeT CT T_51 (drT CT T_51) lpi_51_3 l_51_3 (LD_51_3.enc x) (bodyK (LD_51_3.lay []) EX_51_3)=G_51_3 x.1.2.1 x.1.2.2.1 x.1.2.2.2.1 x.2.1:=by kernel_rfl
def R_51_3:LD_51_3.El→Option (LA_51_3.El⊕LB_51_3.El):=roundsT (fun x=>G_51_3 x.1.2.1 x.1.2.2.1 x.1.2.2.2.1 x.2.1) fuel
def lp_51 {β:Type}:LpT β:=fun k s K=>if Nat.beq k 3 then lpOne (LD_51_3.lay []) EX_51_3 R_51_3 s K else none
theorem lp_51_ok {β:Type}:LpTOk CT (lp_51 (β:=β)) (loopsOf c_51):=LpTOk.is [(3,l_51_3)] (by kernel_rfl) (LpTOk.cons (fun s K z h=>lpG CT_ok T_51_ok lpi_51_3_ok (L:=LD_51_3.lay []) (E:=EX_51_3) g_51_3 rfl rfl rfl rfl h) (LpTOk.nil))
def F_51 (a1:Ty.El tScene):Option (Els [.bool]):=(R_51_3 (((),a1.2.2,↑(List.length a1.2.2),(0:Int),()),[],())).bind fun v1=>Sum.elim (fun v2=>some (true,())) (fun v3=>some (v3.1.1,())) v1
theorem f_51 (x:Ps [.ty tScene]):funcT CT T_51 [.bool] (drT CT T_51) lp_51 Tryz.f87 c_51 (encPs [.ty tScene] x)=F_51 x.1:=by kernel_rfl
def E_51:Ent:=.fn 87 [] ⟨[.ty tScene],[.bool],fun x=>F_51 x.1,false⟩
theorem e_51:E_51.Ok CT.P:=Ent.ofFn CT_ok T_51_ok (by kernel_rfl) (by kernel_rfl) lp_51_ok f_51
def F_128 (a1:Ty.El I):Option (Els [.bool]):=some (a1 != a1,())
def E_128:Ent:=.fn 217 [] ⟨[.ty I],[.bool],fun x=>F_128 x.1,false⟩
theorem e_128:E_128.Ok CT.P:=fn0 CT_ok (tb (l:=[]) trivial) Tryz.f217 (by kernel_rfl) (by kernel_rfl) (by kernel_rfl) fun x=>by kernel_rfl
def F_93 (a1:Ty.El I)(a2:Ty.El I):Option (Els [I]):=(F_128 a1).bind fun v1=>(F_128 a2).bind fun v2=>bif v1.1 then bif v2.1 then some ((0:Int),()) else some ((-1:Int),()) else bif v2.1 then some ((1:Int),()) else bif decide (a1<a2) then some ((-1:Int),()) else bif decide (a1>a2) then some ((1:Int),()) else some ((0:Int),())
def E_93:Ent:=.fn 169 [] ⟨[.ty I,.ty I],[I],fun x=>F_93 x.1 x.2.1,false⟩
theorem e_93:E_93.Ok CT.P:=fn0 CT_ok (tb (l:=[E_128]) ⟨e_128,trivial⟩) Tryz.f169 (by kernel_rfl) (by kernel_rfl) (by kernel_rfl) fun x=>by kernel_rfl
def F_92 (a1:Ty.El tThing)(a2:Ty.El I):Option (Els [I]):=(F_93 a1.1 a2).bind fun v1=>some (v1.1,())
def E_92:Ent:=.fn 168 [] ⟨[.ty tThing,.ty I],[I],fun x=>F_92 x.1 x.2.1,false⟩
theorem e_92:E_92.Ok CT.P:=fn0 CT_ok (tb (l:=[E_93]) ⟨e_93,trivial⟩) Tryz.f168 (by kernel_rfl) (by kernel_rfl) (by kernel_rfl) fun x=>by kernel_rfl
def c_91:Code:=Tryz.f167.body.getD .skip
def T_91:Tb:=mkTb tyT mpT [E_92]
theorem T_91_ok:T_91.Ok CT.P:=mkTb_ok (⟨e_92,trivial⟩)
def l_91_3:Code:=atLoop c_91 3
abbrev LD_91_3:LayD:=⟨49,[(0,.data (.list tThing)),(1,.data I),(2,.clo 168 []),(8,.data I),(9,.data I),(10,.data I)],[],fun _=>[]⟩
abbrev LA_91_3:LayD:=⟨49,[(0,.data (.list tThing)),(1,.data I),(2,.clo 168 []),(8,.data I),(9,.data I)],[],fun _=>[]⟩
abbrev LB_91_3:LayD:=⟨49,[],[],fun _=>[]⟩
def EX_91_3:Exits 0 LA_91_3.El LB_91_3.El:=⟨.exit 0,LA_91_3.lay [],.ret,LB_91_3.lay []⟩
def G_91_3 (r0:Ty.El (.list tThing))(r1:Ty.El I)(r2:Els [])(r8:Ty.El I)(r9:Ty.El I)(r10:Ty.El I):Option (LD_91_3.El⊕(LA_91_3.El⊕LB_91_3.El)):=bif decide (r9<r10) then bif decide ((0:Int)≤IntKind.i64.wrap ((IntKind.u64.wrap (IntKind.i64.wrap (r9+r10))).fdiv (2:Int))∧IntKind.i64.wrap ((IntKind.u64.wrap (IntKind.i64.wrap (r9+r10))).fdiv (2:Int))<↑(List.length r0)) then(F_92 (List.getD r0 (IntKind.i64.wrap ((IntKind.u64.wrap (IntKind.i64.wrap (r9+r10))).fdiv (2:Int))).toNat (I.pair (I.pair (tBody.pair (tJoint.pair I.list)))).dflt) r1).bind fun v3=>bif decide (v3.1<(0:Int)) then some (Sum.inl ((r0,r1,(),r8,IntKind.i64.wrap (IntKind.i64.wrap ((IntKind.u64.wrap (IntKind.i64.wrap (r9+r10))).fdiv (2:Int))+(1:Int)),r10,()),())) else some (Sum.inl ((r0,r1,(),r8,r9,IntKind.i64.wrap ((IntKind.u64.wrap (IntKind.i64.wrap (r9+r10))).fdiv (2:Int)),()),())) else none else some (Sum.inr (Sum.inl ((r0,r1,(),r8,r9,()),())))
theorem g_91_3 (x:LD_91_3.El):codeT CT T_91 (drT CT T_91) lp0 l_91_3 (LD_91_3.enc x) (bodyK (LD_91_3.lay []) EX_91_3)=G_91_3 x.1.1 x.1.2.1 x.1.2.2.1 x.1.2.2.2.1 x.1.2.2.2.2.1 x.1.2.2.2.2.2.1:=by kernel_rfl
def R_91_3:LD_91_3.El→Option (LA_91_3.El⊕LB_91_3.El):=roundsT (fun x=>G_91_3 x.1.1 x.1.2.1 x.1.2.2.1 x.1.2.2.2.1 x.1.2.2.2.2.1 x.1.2.2.2.2.2.1) fuel
def lp_91 {β:Type}:LpT β:=fun k s K=>if Nat.beq k 3 then lpOne (LD_91_3.lay []) EX_91_3 R_91_3 s K else none
theorem lp_91_ok {β:Type}:LpTOk CT (lp_91 (β:=β)) (loopsOf c_91):=LpTOk.is [(3,l_91_3)] (by kernel_rfl) (LpTOk.cons (fun s K z h=>lpG CT_ok T_91_ok (lp0_ok (by kernel_rfl)) (L:=LD_91_3.lay []) (E:=EX_91_3) g_91_3 rfl rfl rfl rfl h) (LpTOk.nil))
def F_91 (a1:Ty.El (.list tThing))(a2:Ty.El I)(a3:Els []):Option (Els [I,.bool]):=(R_91_3 ((a1,a2,(),↑(List.length a1),(0:Int),↑(List.length a1),()),())).bind fun v1=>Sum.elim (fun v2=>bif decide (v2.1.2.2.2.2.1<v2.1.2.2.2.1) then bif decide ((0:Int)≤v2.1.2.2.2.2.1∧v2.1.2.2.2.2.1<↑(List.length v2.1.1)) then(F_92 (List.getD v2.1.1 (Int.toNat v2.1.2.2.2.2.1) (I.pair (I.pair (tBody.pair (tJoint.pair I.list)))).dflt) v2.1.2.1).bind fun v5=>some (v2.1.2.2.2.2.1,v5.1==(0:Int),()) else none else some (v2.1.2.2.2.2.1,false,())) (fun v6=>none) v1
theorem f_91 (x:Ps [.ty (.list tThing),.ty I,.clo 168 []]):funcT CT T_91 [I,.bool] (drT CT T_91) lp_91 Tryz.f167 c_91 (encPs [.ty (.list tThing),.ty I,.clo 168 []] x)=F_91 x.1 x.2.1 x.2.2.1:=by kernel_rfl
def E_91:Ent:=.fn 167 [168] ⟨[.ty (.list tThing),.ty I,.clo 168 []],[I,.bool],fun x=>F_91 x.1 x.2.1 x.2.2.1,false⟩
theorem e_91:E_91.Ok CT.P:=Ent.ofFn CT_ok T_91_ok (by kernel_rfl) (by kernel_rfl) lp_91_ok f_91
def F_48 (a1:Ty.El tScene)(a2:Ty.El I):Option (Els [I,.bool]):=(F_91 a1.2.2 a2 ()).bind fun v1=>some (v1.1,v1.2.1,())
def E_48:Ent:=.fn 126 [] ⟨[.ty tScene,.ty I],[I,.bool],fun x=>F_48 x.1 x.2.1,false⟩
theorem e_48:E_48.Ok CT.P:=fn0 CT_ok (tb (l:=[E_91]) ⟨e_91,trivial⟩) Tryz.f126 (by kernel_rfl) (by kernel_rfl) (by kernel_rfl) fun x=>by kernel_rfl
def F_56 (a1:Ty.El tThing)(a2:Ty.El I):Option (Els [.bool]):=some (a1.1==a2,())
def E_56:Ent:=.fn 93 [] ⟨[.ty tThing,.roa I],[.bool],fun x=>F_56 x.1 x.2.1,false⟩
theorem e_56:E_56.Ok CT.P:=fn0 CT_ok (tb (l:=[]) trivial) Tryz.f93 (by kernel_rfl) (by kernel_rfl) (by kernel_rfl) fun x=>by kernel_rfl
def c_55a:Code:=Tryz.f92.body.getD .skip
def T_55a:Tb:=mkTb tyT mpT [E_56]
theorem T_55a_ok:T_55a.Ok CT.P:=mkTb_ok (⟨e_56,trivial⟩)
def l_55a_2:Code:=atLoop c_55a 2
abbrev LD_55a_2:LayD:=⟨19,[(0,.data (.list tThing)),(1,.clo 93 [I]),(7,.data I),(8,.data I)],[],fun _=>[]⟩
abbrev LA_55a_2:LayD:=⟨19,[],[],fun _=>[]⟩
abbrev LB_55a_2:LayD:=⟨19,[(4,.data I)],[],fun _=>[]⟩
def EX_55a_2:Exits 0 LA_55a_2.El LB_55a_2.El:=⟨.exit 0,LA_55a_2.lay [],.ret,LB_55a_2.lay []⟩
def G_55a_2 (r0:Ty.El (.list tThing))(r1:Els [I])(r7:Ty.El I)(r8:Ty.El I):Option (LD_55a_2.El⊕(LA_55a_2.El⊕LB_55a_2.El)):=bif decide (r8<r7) then bif decide ((0:Int)≤r8∧r8<↑(List.length r0)) then(F_56 (List.getD r0 (Int.toNat r8) (I.pair (I.pair (tBody.pair (tJoint.pair I.list)))).dflt) r1.1).bind fun v3=>bif v3.1 then some (Sum.inr (Sum.inr ((r8,()),()))) else some (Sum.inl ((r0,(r1.1,()),r7,IntKind.i64.wrap (r8+(1:Int)),()),())) else none else some (Sum.inr (Sum.inl ((),())))
theorem g_55a_2 (x:LD_55a_2.El):codeT CT T_55a (drT CT T_55a) lp0 l_55a_2 (LD_55a_2.enc x) (bodyK (LD_55a_2.lay []) EX_55a_2)=G_55a_2 x.1.1 x.1.2.1 x.1.2.2.1 x.1.2.2.2.1:=by kernel_rfl
def R_55a_2:LD_55a_2.El→Option (LA_55a_2.El⊕LB_55a_2.El):=roundsT (fun x=>G_55a_2 x.1.1 x.1.2.1 x.1.2.2.1 x.1.2.2.2.1) fuel
def lp_55a {β:Type}:LpT β:=fun k s K=>if Nat.beq k 2 then lpOne (LD_55a_2.lay []) EX_55a_2 R_55a_2 s K else none
theorem lp_55a_ok {β:Type}:LpTOk CT (lp_55a (β:=β)) (loopsOf c_55a):=LpTOk.is [(2,l_55a_2)] (by kernel_rfl) (LpTOk.cons (fun s K z h=>lpG CT_ok T_55a_ok (lp0_ok (by kernel_rfl)) (L:=LD_55a_2.lay []) (E:=EX_55a_2) g_55a_2 rfl rfl rfl rfl h) (LpTOk.nil))
def F_55a (a1:Ty.El (.list tThing))(a2:Els [I]):Option (Els [I]):=(R_55a_2 ((a1,(a2.1,()),↑(List.length a1),(0:Int),()),())).bind fun v1=>Sum.elim (fun v2=>some ((-1:Int),())) (fun v3=>some (v3.1.1,())) v1
theorem f_55a (x:Ps [.ty (.list tThing),.clo 93 [I]]):funcT CT T_55a [I] (drT CT T_55a) lp_55a Tryz.f92 c_55a (encPs [.ty (.list tThing),.clo 93 [I]] x)=F_55a x.1 x.2.1:=by kernel_rfl
def E_55a:Ent:=.fn 92 [93] ⟨[.ty (.list tThing),.clo 93 [I]],[I],fun x=>F_55a x.1 x.2.1,false⟩
theorem e_55a:E_55a.Ok CT.P:=Ent.ofFn CT_ok T_55a_ok (by kernel_rfl) (by kernel_rfl) lp_55a_ok f_55a
def c_98:Code:=Tryz.f129.body.getD .skip
def T_98:Tb:=mkTb tyT mpT []
theorem T_98_ok:T_98.Ok CT.P:=mkTb_ok (trivial)
def l_98_13:Code:=atLoop c_98 13
def l_98_3:Code:=atLoop c_98 3
def l_98_6:Code:=atLoop l_98_3 6
abbrev LD_98_6:LayD:=⟨47,[(1,.data I),(2,.ptr 0),(5,.map 1),(7,.ptr 2),(13,.data (.list tThing)),(14,.data I),(15,.data I),(20,.data (.list I)),(21,.data I),(22,.data I)],[.var 51 [.data tScene],.tmap I I,.var 68 [.data tThing]],fun s=>[slotR s 2,slotR s 5,slotR s 7]⟩
abbrev LA_98_6:LayD:=⟨47,[(1,.data I),(2,.ptr 0),(5,.map 1),(13,.data (.list tThing)),(14,.data I),(15,.data I)],[.var 51 [.data tScene],.tmap I I],fun s=>[slotR s 2,slotR s 5]⟩
abbrev LB_98_6:LayD:=⟨47,[],[],fun _=>[]⟩
def EX_98_6:Exits 0 LA_98_6.El LB_98_6.El:=⟨.exit 2,LA_98_6.lay [],.ret,LB_98_6.lay []⟩
def G_98_6 (r1:Ty.El I)(r13:Ty.El (.list tThing))(r14:Ty.El I)(r15:Ty.El I)(r20:Ty.El (.list I))(r21:Ty.El I)(r22:Ty.El I)(b0:Ty.El tScene×Unit)(b1:List (Ty.El I×Ty.El I))(b2:Ty.El tThing×Unit):Option (LD_98_6.El⊕(LA_98_6.El⊕LB_98_6.El)):=bif decide (r22<r21) then bif decide ((0:Int)≤r22∧r22<↑(List.length r20)) then some (Sum.inl ((r1,(),(),(),r13,r14,r15,r20,r21,IntKind.i64.wrap (r22+(1:Int)),()),(b0.1,()),tput (Ty.int IntKind.i64) (Ty.int IntKind.i64) (List.getD r20 (Int.toNat r22) (0:Int)) b2.1.1 b1,(b2.1,()),())) else none else some (Sum.inr (Sum.inl ((r1,(),(),r13,r14,r15,()),(b0.1,()),b1,())))
theorem g_98_6 (x:LD_98_6.El):codeT CT T_98 (drT CT T_98) lp0 l_98_6 (LD_98_6.enc x) (bodyK (LD_98_6.lay []) EX_98_6)=G_98_6 x.1.1 x.1.2.2.2.2.1 x.1.2.2.2.2.2.1 x.1.2.2.2.2.2.2.1 x.1.2.2.2.2.2.2.2.1 x.1.2.2.2.2.2.2.2.2.1 x.1.2.2.2.2.2.2.2.2.2.1 x.2.1 x.2.2.1 x.2.2.2.1:=by kernel_rfl
def R_98_6:LD_98_6.El→Option (LA_98_6.El⊕LB_98_6.El):=roundsT (fun x=>G_98_6 x.1.1 x.1.2.2.2.2.1 x.1.2.2.2.2.2.1 x.1.2.2.2.2.2.2.1 x.1.2.2.2.2.2.2.2.1 x.1.2.2.2.2.2.2.2.2.1 x.1.2.2.2.2.2.2.2.2.2.1 x.2.1 x.2.2.1 x.2.2.2.1) fuel
abbrev LD_98_3:LayD:=⟨47,[(1,.data I),(2,.ptr 0),(5,.map 1),(13,.data (.list tThing)),(14,.data I),(15,.data I)],[.var 51 [.data tScene],.tmap I I],fun s=>[slotR s 2,slotR s 5]⟩
abbrev LA_98_3:LayD:=⟨47,[(1,.data I),(2,.ptr 0),(5,.map 1)],[.var 51 [.data tScene],.tmap I I],fun s=>[slotR s 2,slotR s 5]⟩
abbrev LB_98_3:LayD:=⟨47,[],[],fun _=>[]⟩
def EX_98_3:Exits 0 LA_98_3.El LB_98_3.El:=⟨.exit 0,LA_98_3.lay [],.ret,LB_98_3.lay []⟩
def lpi_98_3 {β:Type}:LpT β:=fun k s K=>if Nat.beq k 6 then lpOne (LD_98_6.lay []) EX_98_6 R_98_6 s K else none
theorem lpi_98_3_ok {β:Type}:LpTOk CT (lpi_98_3 (β:=β)) (loopsOf l_98_3):=LpTOk.is [(6,l_98_6)] (by kernel_rfl) (LpTOk.cons (fun s K z h=>lpG CT_ok T_98_ok (lp0_ok (by kernel_rfl)) (L:=LD_98_6.lay []) (E:=EX_98_6) g_98_6 rfl rfl rfl rfl h) (LpTOk.nil))
def G_98_3 (r1:Ty.El I)(r13:Ty.El (.list tThing))(r14:Ty.El I)(r15:Ty.El I)(b0:Ty.El tScene×Unit)(b1:List (Ty.El I×Ty.El I)):Option (LD_98_3.El⊕(LA_98_3.El⊕LB_98_3.El)):=bif decide (r15<r14) then bif decide ((0:Int)≤r15∧r15<↑(List.length r13)) then(R_98_6 ((r1,(),(),(),r13,r14,r15,(List.getD r13 (Int.toNat r15) (I.pair (I.pair (tBody.pair (tJoint.pair I.list)))).dflt).2.2.2.2,↑(List.length (List.getD r13 (Int.toNat r15) (I.pair (I.pair (tBody.pair (tJoint.pair I.list)))).dflt).2.2.2.2),(0:Int),()),(b0.1,()),b1,(List.getD r13 (Int.toNat r15) (I.pair (I.pair (tBody.pair (tJoint.pair I.list)))).dflt,()),())).bind fun v3=>Sum.elim (fun v4=>some (Sum.inl ((v4.1.1,(),(),v4.1.2.2.2.1,v4.1.2.2.2.2.1,IntKind.i64.wrap (v4.1.2.2.2.2.2.1+(1:Int)),()),(v4.2.1.1,()),v4.2.2.1,()))) (fun v5=>some (Sum.inr (Sum.inr ((),())))) v3 else none else some (Sum.inr (Sum.inl ((r1,(),(),()),(b0.1,()),b1,())))
theorem g_98_3 (x:LD_98_3.El):codeT CT T_98 (drT CT T_98) lpi_98_3 l_98_3 (LD_98_3.enc x) (bodyK (LD_98_3.lay []) EX_98_3)=G_98_3 x.1.1 x.1.2.2.2.1 x.1.2.2.2.2.1 x.1.2.2.2.2.2.1 x.2.1 x.2.2.1:=by kernel_rfl
def R_98_3:LD_98_3.El→Option (LA_98_3.El⊕LB_98_3.El):=roundsT (fun x=>G_98_3 x.1.1 x.1.2.2.2.1 x.1.2.2.2.2.1 x.1.2.2.2.2.2.1 x.2.1 x.2.2.1) fuel
abbrev LD_98_13:LayD:=⟨47,[(1,.data I),(5,.map 0),(10,.data I),(37,.data I),(38,.data I)],[.tmap I I],fun s=>[slotR s 5]⟩
abbrev LA_98_13:LayD:=⟨47,[],[],fun _=>[]⟩
abbrev LB_98_13:LayD:=⟨47,[(4,.data .bool)],[],fun _=>[]⟩
def EX_98_13:Exits 0 LA_98_13.El LB_98_13.El:=⟨.exit 4,LA_98_13.lay [],.ret,LB_98_13.lay []⟩
def G_98_13 (r1:Ty.El I)(r10:Ty.El I)(r37:Ty.El I)(r38:Ty.El I)(b0:List (Ty.El I×Ty.El I)):Option (LD_98_13.El⊕(LA_98_13.El⊕LB_98_13.El)):=bif decide (r38<r37) then bif r10==r1 then some (Sum.inr (Sum.inr ((true,()),()))) else some (Sum.inl ((r1,(),(tget (Ty.int IntKind.i64) (Ty.int IntKind.i64) r10 b0).getD (0:Int),r37,IntKind.i64.wrap (r38+(1:Int)),()),b0,())) else some (Sum.inr (Sum.inl ((),())))
theorem g_98_13 (x:LD_98_13.El):codeT CT T_98 (drT CT T_98) lp0 l_98_13 (LD_98_13.enc x) (bodyK (LD_98_13.lay []) EX_98_13)=G_98_13 x.1.1 x.1.2.2.1 x.1.2.2.2.1 x.1.2.2.2.2.1 x.2.1:=by kernel_rfl
def R_98_13:LD_98_13.El→Option (LA_98_13.El⊕LB_98_13.El):=roundsT (fun x=>G_98_13 x.1.1 x.1.2.2.1 x.1.2.2.2.1 x.1.2.2.2.2.1 x.2.1) fuel
def lp_98 {β:Type}:LpT β:=fun k s K=>if Nat.beq k 3 then lpOne (LD_98_3.lay []) EX_98_3 R_98_3 s K else if Nat.beq k 13 then lpOne (LD_98_13.lay []) EX_98_13 R_98_13 s K else none
theorem lp_98_ok {β:Type}:LpTOk CT (lp_98 (β:=β)) (loopsOf c_98):=LpTOk.is [(3,l_98_3),(13,l_98_13)] (by kernel_rfl) (LpTOk.cons (fun s K z h=>lpG CT_ok T_98_ok lpi_98_3_ok (L:=LD_98_3.lay []) (E:=EX_98_3) g_98_3 rfl rfl rfl rfl h) (LpTOk.cons (fun s K z h=>lpG CT_ok T_98_ok (lp0_ok (by kernel_rfl)) (L:=LD_98_13.lay []) (E:=EX_98_13) g_98_13 rfl rfl rfl rfl h) (LpTOk.nil)))
def F_98 (a1:Ty.El tScene)(a2:Ty.El I):Option (Els [.bool]):=(R_98_3 ((a2,(),(),a1.2.2,↑(List.length a1.2.2),(0:Int),()),(a1,()),[],())).bind fun v1=>Sum.elim (fun v2=>(R_98_13 ((v2.1.1,(),(tget (Ty.int IntKind.i64) (Ty.int IntKind.i64) v2.1.1 v2.2.2.1).getD (0:Int),↑(List.length v2.2.1.1.2.2),(0:Int),()),v2.2.2.1,())).bind fun v3=>Sum.elim (fun v4=>some (false,())) (fun v5=>some (v5.1.1,())) v3) (fun v6=>none) v1
theorem f_98 (x:Ps [.ty tScene,.ty I]):funcT CT T_98 [.bool] (drT CT T_98) lp_98 Tryz.f129 c_98 (encPs [.ty tScene,.ty I] x)=F_98 x.1 x.2.1:=by kernel_rfl
def E_98:Ent:=.fn 129 [] ⟨[.ty tScene,.ty I],[.bool],fun x=>F_98 x.1 x.2.1,false⟩
theorem e_98:E_98.Ok CT.P:=Ent.ofFn CT_ok T_98_ok (by kernel_rfl) (by kernel_rfl) lp_98_ok f_98
def F_97 (a1:Ty.El tThing)(a2:Ty.El tScene):Option (Els [.bool]):=(F_98 a2 a1.1).bind fun v1=>some (v1.1,())
def E_97:Ent:=.fn 128 [] ⟨[.ty tThing,.roa tScene],[.bool],fun x=>F_97 x.1 x.2.1,false⟩
theorem e_97:E_97.Ok CT.P:=fn0 CT_ok (tb (l:=[E_98]) ⟨e_98,trivial⟩) Tryz.f128 (by kernel_rfl) (by kernel_rfl) (by kernel_rfl) fun x=>by kernel_rfl
def c_55b:Code:=Tryz.f92.body.getD .skip
def T_55b:Tb:=mkTb tyT mpT [E_97]
theorem T_55b_ok:T_55b.Ok CT.P:=mkTb_ok (⟨e_97,trivial⟩)
def l_55b_2:Code:=atLoop c_55b 2
abbrev LD_55b_2:LayD:=⟨19,[(0,.data (.list tThing)),(1,.clo 128 [tScene]),(7,.data I),(8,.data I)],[],fun _=>[]⟩
abbrev LA_55b_2:LayD:=⟨19,[],[],fun _=>[]⟩
abbrev LB_55b_2:LayD:=⟨19,[(4,.data I)],[],fun _=>[]⟩
def EX_55b_2:Exits 0 LA_55b_2.El LB_55b_2.El:=⟨.exit 0,LA_55b_2.lay [],.ret,LB_55b_2.lay []⟩
def G_55b_2 (r0:Ty.El (.list tThing))(r1:Els [tScene])(r7:Ty.El I)(r8:Ty.El I):Option (LD_55b_2.El⊕(LA_55b_2.El⊕LB_55b_2.El)):=bif decide (r8<r7) then bif decide ((0:Int)≤r8∧r8<↑(List.length r0)) then(F_97 (List.getD r0 (Int.toNat r8) (I.pair (I.pair (tBody.pair (tJoint.pair I.list)))).dflt) r1.1).bind fun v3=>bif v3.1 then some (Sum.inr (Sum.inr ((r8,()),()))) else some (Sum.inl ((r0,(r1.1,()),r7,IntKind.i64.wrap (r8+(1:Int)),()),())) else none else some (Sum.inr (Sum.inl ((),())))
theorem g_55b_2 (x:LD_55b_2.El):codeT CT T_55b (drT CT T_55b) lp0 l_55b_2 (LD_55b_2.enc x) (bodyK (LD_55b_2.lay []) EX_55b_2)=G_55b_2 x.1.1 x.1.2.1 x.1.2.2.1 x.1.2.2.2.1:=by kernel_rfl
def R_55b_2:LD_55b_2.El→Option (LA_55b_2.El⊕LB_55b_2.El):=roundsT (fun x=>G_55b_2 x.1.1 x.1.2.1 x.1.2.2.1 x.1.2.2.2.1) fuel
def lp_55b {β:Type}:LpT β:=fun k s K=>if Nat.beq k 2 then lpOne (LD_55b_2.lay []) EX_55b_2 R_55b_2 s K else none
theorem lp_55b_ok {β:Type}:LpTOk CT (lp_55b (β:=β)) (loopsOf c_55b):=LpTOk.is [(2,l_55b_2)] (by kernel_rfl) (LpTOk.cons (fun s K z h=>lpG CT_ok T_55b_ok (lp0_ok (by kernel_rfl)) (L:=LD_55b_2.lay []) (E:=EX_55b_2) g_55b_2 rfl rfl rfl rfl h) (LpTOk.nil))
def F_55b (a1:Ty.El (.list tThing))(a2:Els [tScene]):Option (Els [I]):=(R_55b_2 ((a1,(a2.1,()),↑(List.length a1),(0:Int),()),())).bind fun v1=>Sum.elim (fun v2=>some ((-1:Int),())) (fun v3=>some (v3.1.1,())) v1
theorem f_55b (x:Ps [.ty (.list tThing),.clo 128 [tScene]]):funcT CT T_55b [I] (drT CT T_55b) lp_55b Tryz.f92 c_55b (encPs [.ty (.list tThing),.clo 128 [tScene]] x)=F_55b x.1 x.2.1:=by kernel_rfl
def E_55b:Ent:=.fn 92 [128] ⟨[.ty (.list tThing),.clo 128 [tScene]],[I],fun x=>F_55b x.1 x.2.1,false⟩
theorem e_55b:E_55b.Ok CT.P:=Ent.ofFn CT_ok T_55b_ok (by kernel_rfl) (by kernel_rfl) lp_55b_ok f_55b
def F_96 (a1:Ty.El (.list tThing))(a2:Els [tScene]):Option (Els [.bool]):=(F_55b a1 (a2.1,())).bind fun v1=>some (decide (v1.1≥(0:Int)),())
def E_96:Ent:=.fn 127 [128] ⟨[.ty (.list tThing),.clo 128 [tScene]],[.bool],fun x=>F_96 x.1 x.2.1,false⟩
theorem e_96:E_96.Ok CT.P:=fn0 CT_ok (tb (l:=[E_55b]) ⟨e_55b,trivial⟩) Tryz.f127 (by kernel_rfl) (by kernel_rfl) (by kernel_rfl) fun x=>by kernel_rfl
def F_53 (a1:Ty.El tScene):Option (Els [.bool]):=(F_96 a1.2.2 (a1,())).bind fun v1=>some (!v1.1,())
def E_53:Ent:=.fn 88 [] ⟨[.ty tScene],[.bool],fun x=>F_53 x.1,false⟩
theorem e_53:E_53.Ok CT.P:=fn0 CT_ok (tb (l:=[E_96]) ⟨e_96,trivial⟩) Tryz.f88 (by kernel_rfl) (by kernel_rfl) (by kernel_rfl) fun x=>by kernel_rfl
end Go.DI.S
end
