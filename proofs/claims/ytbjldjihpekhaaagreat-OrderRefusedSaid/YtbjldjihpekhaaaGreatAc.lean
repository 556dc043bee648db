import Derived.Test.YtbjldjihpekhaaaGreatAb
import Derived.Test.YtbjldjihpekhaaaGreatVa
import Derived.Shelf.SlSortCmp.WholeK
import Derived.Shelf.SlSortCmp.NoneTotal
/- slices.SortFunc at pairs. No conditions. -/
set_option linter.unusedSimpArgs false
set_option linter.unusedVariables false
set_option maxRecDepth 100000
set_option maxHeartbeats 0
noncomputable section
namespace Go.DI.S
open Go.Proofs
def F_w310 (a1:Ty.El I):Option (Els [.bool]):=some (a1 != a1,())
def E_w310:Ent:=.fn 318 [] ⟨[.ty I],[.bool],fun x=>F_w310 x.1,false⟩
theorem e_w310:E_w310.Ok CT.P:=fn0 CT_ok (tb (l:=[]) trivial) Tryz.f318 (by kernel_rfl) (by kernel_rfl) (by kernel_rfl) fun x=>by kernel_rfl
def F_w288 (a1:Ty.El I)(a2:Ty.El I):Option (Els [I]):=(F_w310 a1).bind fun v2=>(F_w310 a2).bind fun v4=>bif v2.1 then bif v4.1 then some ((0:Int),()) else some ((-1:Int),()) else bif v4.1 then some ((1:Int),()) else bif decide (a1<a2) then some ((-1:Int),()) else bif decide (a1>a2) then some ((1:Int),()) else some ((0:Int),())
def E_w288:Ent:=.fn 310 [] ⟨[.ty I,.ty I],[I],fun x=>F_w288 x.1 x.2.1,false⟩
theorem e_w288:E_w288.Ok CT.P:=fn0 CT_ok (tb (l:=[E_w310]) ⟨e_w310,trivial⟩) Tryz.f310 (by kernel_rfl) (by kernel_rfl) (by kernel_rfl) fun x=>by kernel_rfl
def c_w237:Code:=Tryz.f298.body.getD .skip
def T_w237:Tb:=mkTb tyT mpT []
theorem T_w237_ok:T_w237.Ok CT.P:=mkTb_ok (trivial)
def l_w237_3:Code:=atLoop c_w237 3
abbrev LD_w237_3:LayD:=⟨18,[(3,.data I),(6,.data (.list I)),(7,.data I),(8,.data I)],[],fun _=>[]⟩
abbrev LA_w237_3:LayD:=⟨18,[(3,.data I)],[],fun _=>[]⟩
abbrev LB_w237_3:LayD:=⟨18,[(2,.data I)],[],fun _=>[]⟩
def EX_w237_3:Exits 0 LA_w237_3.El LB_w237_3.El:=⟨.exit 0,LA_w237_3.lay [],.ret,LB_w237_3.lay []⟩
def G_w237_3 (r3:Ty.El I)(r6:Ty.El (.list I))(r7:Ty.El I)(r8:Ty.El I):Option (LD_w237_3.El⊕(LA_w237_3.El⊕LB_w237_3.El)):=bif decide (r8<r7) then bif decide ((0:Int)≤r8∧r8<(↑(List.length r6):Int)) then bif List.getD r6 (Int.toNat r8) (0:Int) != r3 then some (Sum.inr (Sum.inr ((List.getD r6 (Int.toNat r8) (0:Int),()),()))) else some (Sum.inl ((r3,r6,r7,IntKind.i64.wrap (r8+(1:Int)),()),())) else none else some (Sum.inr (Sum.inl ((r3,()),())))
theorem g_w237_3 (x:LD_w237_3.El):codeT CT T_w237 (drT CT T_w237) lp0 l_w237_3 (LD_w237_3.enc x) (bodyK (LD_w237_3.lay []) EX_w237_3)=G_w237_3 x.1.1 x.1.2.1 x.1.2.2.1 x.1.2.2.2.1:=by kernel_rfl
def R_w237_3:LD_w237_3.El→Option (LA_w237_3.El⊕LB_w237_3.El):=roundsT (fun x=>G_w237_3 x.1.1 x.1.2.1 x.1.2.2.1 x.1.2.2.2.1) fuel
def lp_w237 {β:Type}:LpT β:=fun k s K=>if Nat.beq k 3 then lpOne (LD_w237_3.lay []) EX_w237_3 R_w237_3 s K else none
theorem lp_w237_ok {β:Type}:LpTOk CT (lp_w237 (β:=β)) (loopsOf c_w237):=LpTOk.is [(3,l_w237_3)] (by kernel_rfl) (LpTOk.cons (fun s K z h=>lpG CT_ok T_w237_ok (lp0_ok (by kernel_rfl)) (L:=LD_w237_3.lay []) (E:=EX_w237_3) g_w237_3 rfl rfl rfl rfl h) (LpTOk.nil))
def F_w237 (a1:Ty.El (.list I)):Option (Els [I]):=(R_w237_3 (((0:Int),a1,(↑(List.length a1):Int),(0:Int),()),())).bind fun v1=>Sum.elim (fun v2=>some (v2.1.1,())) (fun v3=>some (v3.1.1,())) v1
theorem f_w237 (x:Ps [.ty (.list I)]):funcT CT T_w237 [I] (drT CT T_w237) lp_w237 Tryz.f298 c_w237 (encPs [.ty (.list I)] x)=F_w237 x.1:=by kernel_rfl
def E_w237:Ent:=.fn 298 [] ⟨[.ty (.list I)],[I],fun x=>F_w237 x.1,false⟩
theorem e_w237:E_w237.Ok CT.P:=Ent.ofFn CT_ok T_w237_ok (by kernel_rfl) (by kernel_rfl) lp_w237_ok f_w237
def F_w236 (a1:Ty.El tPair)(a2:Ty.El tPair):Option (Els [I]):=(F_93 a1.1 a2.1).bind fun v2=>(F_93 a1.2 a2.2).bind fun v4=>(F_w237 [v2.1,v4.1]).bind fun v6=>some (v6.1,())
def E_w236:Ent:=.fn 297 [] ⟨[.ty tPair,.ty tPair],[I],fun x=>F_w236 x.1 x.2.1,false⟩
theorem e_w236:E_w236.Ok CT.P:=fn0 CT_ok (tb (l:=[E_93,E_w237]) ⟨e_93,e_w237,trivial⟩) Tryz.f297 (by kernel_rfl) (by kernel_rfl) (by kernel_rfl) fun x=>by kernel_rfl
abbrev IN_w287:LayD:=⟨3,[(0,.data I),(1,.data I),(2,.ptr 0)],[.var 317 [.data (.list tBox)]],fun s=>[slotR s 2]⟩
abbrev OUT_w287:LayD:=⟨1,[(0,.data I)],[.var 317 [.data (.list tBox)]],fun _=>[0]⟩
def F_w287 (a0:Ty.El I)(a1:Ty.El I)(b0:Ty.El (.list tBox)×Unit):Option OUT_w287.El:=bif decide ((0:Int)≤a0∧a0<(↑(List.length b0.1):Int)) then bif decide ((0:Int)≤a1∧a1<(↑(List.length b0.1):Int)) then(F_w288 (List.getD b0.1 (Int.toNat a0) tBox.dflt).1.1 (List.getD b0.1 (Int.toNat a1) tBox.dflt).1.1).bind fun v2=>some ((v2.1,()),(b0.1,()),()) else none else none
def E_w287:Ent:=.mkGen 309 [] ⟨1,[],IN_w287,OUT_w287,fun x=>F_w287 x.1.1 x.1.2.1 x.2.1⟩
theorem e_w287:E_w287.Ok CT.P:=gen0 (C:=(CTp 1)) (CTp_ok 1) (tb (l:=[E_w288]) ⟨e_w288,trivial⟩) [] Tryz.f309 (by kernel_rfl) (by kernel_rfl) (by kernel_rfl) fun x=>by kernel_rfl
def c_w325:Code:=Tryz.f331.body.getD .skip
abbrev IN_w325:LayD:=⟨4,[(0,.own I 0),(1,.data I),(2,.data I),(3,.cloP 309 [1])],[.row 3 I,.var 317 [.data (.list tBox)]],fun s=>[slotR s 0,slotF s 3]⟩
abbrev OUT_w325:LayD:=⟨0,[],[.row 3 I,.var 317 [.data (.list tBox)]],fun _=>[0,1]⟩
def T_w325:Tb:=mkTb tyT mpT [E_w287]
theorem T_w325_ok:T_w325.Ok CT.P:=mkTb_ok (⟨e_w287,trivial⟩)
def l_w325_1:Code:=atLoop c_w325 1
def l_w325_4:Code:=atLoop l_w325_1 4
abbrev LD_w325_4:LayD:=⟨53,[(0,.own I 0),(1,.data I),(2,.data I),(3,.cloP 309 [1]),(8,.data I),(9,.data I)],[.row 3 I,.var 317 [.data (.list tBox)]],fun s=>[0,1]⟩
abbrev LA_w325_4:LayD:=⟨53,[(0,.own I 0),(1,.data I),(2,.data I),(3,.cloP 309 [1]),(8,.data I)],[.row 3 I,.var 317 [.data (.list tBox)]],fun s=>[0,1]⟩
abbrev LB_w325_4:LayD:=⟨53,[],[],fun _=>[]⟩
def EX_w325_4:Exits 2 LA_w325_4.El LB_w325_4.El:=⟨.exit 2,LA_w325_4.lay [],.ret,LB_w325_4.lay []⟩
def G_w325_4 (r1:Ty.El I)(r2:Ty.El I)(r8:Ty.El I)(r9:Ty.El I)(b0:List (Ty.El I))(b1:Ty.El (.list tBox)×Unit):Option (LD_w325_4.El⊕(LA_w325_4.El⊕LB_w325_4.El)):=bif decide (r9>r1) then bif decide ((0:Int)≤r9∧r9<(↑b0.length:Int)) then bif decide ((0:Int)≤IntKind.i64.wrap (r9-(1:Int))∧IntKind.i64.wrap (r9-(1:Int))<(↑b0.length:Int)) then(F_w287 (b0.getD (Int.toNat r9) (0:Int)) (b0.getD (IntKind.i64.wrap (r9-(1:Int))).toNat (0:Int)) (b1.1,())).bind fun v2=>bif decide (v2.1.1<(0:Int)) then bif decide ((0:Int)≤IntKind.i64.wrap (r9-(1:Int))∧IntKind.i64.wrap (r9-(1:Int))<(↑b0.length:Int)) then bif decide ((0:Int)≤r9∧r9<(↑b0.length:Int)) then bif decide ((0:Int)≤r9∧r9<(↑b0.length:Int)) then bif decide ((0:Int)≤IntKind.i64.wrap (r9-(1:Int))∧IntKind.i64.wrap (r9-(1:Int))<(↑(b0.set (Int.toNat r9) (b0.getD (IntKind.i64.wrap (r9-(1:Int))).toNat (0:Int))).length:Int)) then some (Sum.inl (((),r1,r2,(),r8,IntKind.i64.wrap (r9-(1:Int)),()),(b0.set (Int.toNat r9) (b0.getD (IntKind.i64.wrap (r9-(1:Int))).toNat (0:Int))).set (IntKind.i64.wrap (r9-(1:Int))).toNat (b0.getD (Int.toNat r9) (0:Int)),(v2.2.1.1,()),())) else none else none else none else none else some (Sum.inr (Sum.inl (((),r1,r2,(),r8,()),b0,(v2.2.1.1,()),()))) else none else none else some (Sum.inr (Sum.inl (((),r1,r2,(),r8,()),b0,(b1.1,()),())))
theorem g_w325_4 (x:LD_w325_4.El):codeT (CTp 2) T_w325 (drT (CTp 2) T_w325) lp0 l_w325_4 (LD_w325_4.enc x) (bodyK (LD_w325_4.lay []) EX_w325_4)=G_w325_4 x.1.2.1 x.1.2.2.1 x.1.2.2.2.2.1 x.1.2.2.2.2.2.1 x.2.1 x.2.2.1:=by kernel_rfl
def R_w325_4:LD_w325_4.El→Option (LA_w325_4.El⊕LB_w325_4.El):=roundsT (fun x=>G_w325_4 x.1.2.1 x.1.2.2.1 x.1.2.2.2.2.1 x.1.2.2.2.2.2.1 x.2.1 x.2.2.1) fuel
abbrev LD_w325_1:LayD:=⟨53,[(0,.own I 0),(1,.data I),(2,.data I),(3,.cloP 309 [1]),(8,.data I)],[.row 3 I,.var 317 [.data (.list tBox)]],fun s=>[0,1]⟩
abbrev LA_w325_1:LayD:=⟨53,[],[.row 3 I,.var 317 [.data (.list tBox)]],fun s=>[0,1]⟩
abbrev LB_w325_1:LayD:=⟨53,[],[],fun _=>[]⟩
def EX_w325_1:Exits 2 LA_w325_1.El LB_w325_1.El:=⟨.exit 0,LA_w325_1.lay [],.ret,LB_w325_1.lay []⟩
def lpi_w325_1 {β:Type}:LpT β:=fun k s K=>if Nat.beq k 4 then lpOne (LD_w325_4.lay []) EX_w325_4 R_w325_4 s K else none
theorem lpi_w325_1_ok {β:Type}:LpTOk (CTp 2) (lpi_w325_1 (β:=β)) (loopsOf l_w325_1):=LpTOk.is [(4,l_w325_4)] (by kernel_rfl) (LpTOk.cons (fun s K z h=>lpG (CTp_ok 2) T_w325_ok (lp0_ok (by kernel_rfl)) (L:=LD_w325_4.lay []) (E:=EX_w325_4) g_w325_4 rfl rfl rfl rfl h) (LpTOk.nil))
def G_w325_1 (r1:Ty.El I)(r2:Ty.El I)(r8:Ty.El I)(b0:List (Ty.El I))(b1:Ty.El (.list tBox)×Unit):Option (LD_w325_1.El⊕(LA_w325_1.El⊕LB_w325_1.El)):=bif decide (r8<r2) then(R_w325_4 (((),r1,r2,(),r8,r8,()),b0,(b1.1,()),())).bind fun v1=>Sum.elim (fun v2=>some (Sum.inl (((),v2.1.2.1,v2.1.2.2.1,(),IntKind.i64.wrap (v2.1.2.2.2.2.1+(1:Int)),()),v2.2.1,(v2.2.2.1.1,()),()))) (fun v3=>none) v1 else some (Sum.inr (Sum.inl ((),b0,(b1.1,()),())))
theorem g_w325_1 (x:LD_w325_1.El):codeT (CTp 2) T_w325 (drT (CTp 2) T_w325) lpi_w325_1 l_w325_1 (LD_w325_1.enc x) (bodyK (LD_w325_1.lay []) EX_w325_1)=G_w325_1 x.1.2.1 x.1.2.2.1 x.1.2.2.2.2.1 x.2.1 x.2.2.1:=by kernel_rfl
def R_w325_1:LD_w325_1.El→Option (LA_w325_1.El⊕LB_w325_1.El):=roundsT (fun x=>G_w325_1 x.1.2.1 x.1.2.2.1 x.1.2.2.2.2.1 x.2.1 x.2.2.1) fuel
def lp_w325 {β:Type}:LpT β:=fun k s K=>if Nat.beq k 1 then lpOne (LD_w325_1.lay []) EX_w325_1 R_w325_1 s K else none
theorem lp_w325_ok {β:Type}:LpTOk (CTp 2) (lp_w325 (β:=β)) (loopsOf c_w325):=LpTOk.is [(1,l_w325_1)] (by kernel_rfl) (LpTOk.cons (fun s K z h=>lpG (CTp_ok 2) T_w325_ok lpi_w325_1_ok (L:=LD_w325_1.lay []) (E:=EX_w325_1) g_w325_1 rfl rfl rfl rfl h) (LpTOk.nil))
def F_w325 (a1:Ty.El I)(a2:Ty.El I)(b0:List (Ty.El I))(b1:Ty.El (.list tBox)×Unit):Option OUT_w325.El:=(R_w325_1 (((),a1,a2,(),IntKind.i64.wrap (a1+(1:Int)),()),b0,(b1.1,()),())).bind fun v1=>Sum.elim (fun v2=>some ((),v2.2.1,(v2.2.2.1.1,()),())) (fun v3=>none) v1
theorem f_w325 (x:IN_w325.El):funcX (CTp 2) T_w325 IN_w325 OUT_w325 [] (drT (CTp 2) T_w325) lp_w325 Tryz.f331 c_w325 x=F_w325 x.1.2.1 x.1.2.2.1 x.2.1 x.2.2.1:=by kernel_rfl
def E_w325:Ent:=.mkGen 331 [309] ⟨2,[.nilReg 0 3 I,.rowReg 0 3 I],IN_w325,OUT_w325,fun x=>F_w325 x.1.2.1 x.1.2.2.1 x.2.1 x.2.2.1⟩
theorem e_w325:E_w325.Ok CT.P:=Ent.ofGen (C:=(CTp 2)) (steps:=[.nilReg 0 3 I,.rowReg 0 3 I]) (osteps:=[]) (CTp_ok 2) T_w325_ok (by kernel_rfl) (by kernel_rfl) lp_w325_ok f_w325
open Go.Proofs Go.Shelf Go.RowKit Go.Lib Go.Sort
def ci (a b:Int):Int:=if a<b then -1 else if a>b then 1 else 0
def cfP (p q:Pair):Int:=if ci p.1 q.1=0 then ci p.2 q.2 else ci p.1 q.1
theorem orP (a b:Int):F_w237 [a,b]=some (((if a=0 then b else a),()):Els [I]):=by
 have h:=find_loop (G:=fun x=>G_w237_3 x.1.1 x.1.2.1 x.1.2.2.1 x.1.2.2.2.1) (m:=fuel) [a,b] (fun n=>n != 0) (fun k=>(((0:Int),[a,b],((2:Nat):Int),(k:Int),()),())) (fun k=>.inr ((([a,b]:List Int).getD k 0,()),())) (.inl (((0:Int),()),()))
  (fun k x hx=>?_) ?_ (fuel_lt (show 2≤1000000000 by decide))
 ·unfold F_w237 R_w237_3
  show(roundsT _ fuel (((0:Int),[a,b],((2:Nat):Int),((0:Nat):Int),()),())).bind _=_
  rw [h]
  by_cases ha:a=0
  ·subst ha
   by_cases hb:b=0
   ·subst hb;rfl
   ·have e:[(0:Int),b].findIdx? (fun n=>n != 0)=some 1:=by simp [List.findIdx?_cons,hb]
    rw [e];rfl
  ·have e:[a,b].findIdx? (fun n=>n != 0)=some 0:=by simp [List.findIdx?_cons,ha]
   rw [e,if_neg ha];rfl
 ·have hk:k<2:=len_of hx
  have hd:([a,b]:List Int).getD (Int.toNat (k:Int)) 0=x:=getD_of hx
  have hd2:([a,b]:List Int).getD k 0=x:=hd
  have h1:decide ((k:Int)<((2:Nat):Int))=true:=dec_lt hk
  have h2:decide ((0:Int)≤(k:Int)∧(k:Int)<((([a,b]:List Int).length:Nat):Int))=true:=dec_in hk
  simp only [G_w237_3,h1,h2,cond_true,hd,hd2,wrap_up hk (by omega)]
  cases (x != 0) <;> rfl
 ·simp only [G_w237_3]
  rfl
theorem cmpP (p q:Pair):F_w236 p q=some ((cfP p q,()):Els [I]):=by
 have h1:F_93 p.1 q.1=some ((ci p.1 q.1,()):Els [I]):=v_93 p.1 q.1
 have h2:F_93 p.2 q.2=some ((ci p.2 q.2,()):Els [I]):=v_93 p.2 q.2
 unfold F_w236
 exact bind_ofV h1 (bind_ofV h2 (bind_ofV (orP _ _) rfl))
def leP (p q:Pair):Bool:=decide (cfP p q≤0)
def leI (a b c d:Int):Prop:=a<c∨(a=c∧b≤d)
theorem ci_le (a b c d:Int):(if ci a c=0 then ci b d else ci a c)≤0↔leI a b c d:=by
 unfold ci leI
 repeat' split
 all_goals omega
theorem ci_lt (a b c d:Int):(if ci a c=0 then ci b d else ci a c)<0↔¬leI c d a b:=by
 unfold ci leI
 repeat' split
 all_goals omega
theorem leI_trans {a b c d e f:Int}(h:leI a b c d)(k:leI c d e f):leI a b e f:=by unfold leI at *;omega
theorem leI_total {a b c d:Int}(h:¬leI a b c d):leI c d a b:=by unfold leI at *;omega
theorem leI_anti {a b c d:Int}(h:leI a b c d)(k:leI c d a b):a=c∧b=d:=by unfold leI at *;omega
theorem leI_refl (a b:Int):leI a b a b:=by unfold leI;omega
theorem leI_split {a b c d e f:Int}(h:¬leI a b c d)(k:¬leI c d e f):¬leI a b e f:=by unfold leI at *;omega
def LeP (p q:Pair):Prop:=leI p.1 p.2 q.1 q.2
theorem leP_iff {p q:Pair}:leP p q=true↔LeP p q:=by
 unfold leP
 rw [decide_eq_true_eq]
 exact ci_le p.1 p.2 q.1 q.2
theorem LeP.trans {a b c:Pair}(h:LeP a b)(k:LeP b c):LeP a c:=leI_trans h k
theorem LeP.total {a b:Pair}(h:¬LeP a b):LeP b a:=leI_total h
theorem LeP.anti {a b:Pair}(h:LeP a b)(k:LeP b a):a=b:=Prod.ext (leI_anti h k).1 (leI_anti h k).2
def ordP (a:Pair):List Pair→List Pair
 | []=>[a]
 | b :: l=>bif leP a b then a :: b :: l else b :: ordP a l
def sortP:List Pair→List Pair
 | []=>[]
 | a :: l=>ordP a (sortP l)
theorem ordP_perm (a:Pair):∀ l,(ordP a l).Perm (a :: l)
 | []=>.refl _
 | b :: l=>by
  simp only [ordP]
  cases leP a b with
  | true=>exact .refl _
  | false=>exact((ordP_perm a l).cons b).trans (.swap a b l)
theorem sortP_perm:∀ l,(sortP l).Perm l
 | []=>.refl _
 | a :: l=>(ordP_perm a _).trans ((sortP_perm l).cons a)
theorem sortP_len (l:List Pair):(sortP l).length=l.length:=(sortP_perm l).length_eq
theorem ordP_sorted (a:Pair):∀ l,l.Pairwise LeP→(ordP a l).Pairwise LeP
 | [],_=>by simp [ordP]
 | b :: l,h=>by
  have hb:=List.pairwise_cons.1 h
  simp only [ordP]
  cases hd:leP a b with
  | true=>
   have hab:LeP a b:=leP_iff.1 hd
   refine List.pairwise_cons.2 ⟨fun x hx=>?_,h⟩
   rcases List.mem_cons.1 hx with rfl | hx
   ·exact hab
   ·exact hab.trans (hb.1 x hx)
  | false=>
   have hab:¬LeP a b:=fun h=>by rw [leP_iff.2 h] at hd;cases hd
   refine List.pairwise_cons.2 ⟨fun x hx=>?_,ordP_sorted a l hb.2⟩
   rcases List.mem_cons.1 ((ordP_perm a l).mem_iff.1 hx) with rfl | hx
   ·exact LeP.total hab
   ·exact hb.1 x hx
theorem sortP_sorted:∀ l,(sortP l).Pairwise LeP
 | []=>.nil
 | a :: l=>ordP_sorted a _ (sortP_sorted l)
theorem sortP_of {l m:List Pair}(hp:m.Perm l)(hs:m.Pairwise LeP):m=sortP l:=
 List.Perm.eq_of_pairwise (le:=LeP) (fun a b _ _ h k=>LeP.anti h k) hs (sortP_sorted l) (hp.trans (sortP_perm l).symm)
def vP (p:Pair):List Value:=[.int .i64 p.1,.int .i64 p.2]
theorem grown_by {w w':World}(h1:w'.os=w.os)(h2:w'.tape=w.tape)(h3:w'.output=w.output)(hs:w.heap.size≤w'.heap.size)(hk:∀ b,b<w.heap.size→w'.heap[b]?=w.heap[b]?)(hd:w.drawn≤w'.drawn):∃ q os',w'=grow (w.drewN q) os':=by
 refine⟨w'.drawn-w.drawn,w'.heap.extract w.heap.size w'.heap.size,?_⟩
 have e:w'.heap=w.heap++w'.heap.extract w.heap.size w'.heap.size:=by
  apply Array.ext_getElem?
  intro b
  rw [Array.getElem?_append]
  split
  ·rename_i hb;exact hk b hb
  ·rename_i hb
   rw [Array.getElem?_extract]
   split
   ·congr 1;omega
   ·rename_i h
    rw [Array.getElem?_eq_none];omega
 cases w;cases w'
 simp only at h1 h2 h3 e hd
 subst h1 h2 h3
 unfold grow World.drewN
 simp only [World.mk.injEq,true_and,and_true]
 exact⟨e,by omega⟩
theorem closP (x y:Pair)(W:World):Calls Tryz.prog 297 #[.agg (vP x).toArray,.agg (vP y).toArray] W fun e w'=>e=.returned (.int .i64 (cfP x y))∧∃ q os',w'=grow (W.drewN q) os':=by
 have h:=e_w236 (x,y,()) (cfP x y,()) (cmpP x y)
 have hv:VReps W (fun _=>False) ρ0 (encPs [.ty tPair,.ty tPair] (x,y,())) #[Value.agg (vP x).toArray,.agg (vP y).toArray].toList:=
  .cons (.agg' (.cons (.int _ _) (.cons (.int _ _) .nil))) (.cons (.agg' (.cons (.int _ _) (.cons (.int _ _) .nil))) .nil)
 refine(h (fun _=>False) ρ0 W _ (.base fun b hb=>hb.elim) hv).mono ?_
 rintro e w' ⟨R',ρ',u,⟨rfl,hu⟩,_,f⟩
 have hu:VRep w' R' ρ' (.int .i64 (cfP x y)) u:=hu
 cases hu
 exact⟨rfl,grown_by f.os f.tape f.output f.size (fun b hb=>f.keeps b hb Lv.none) f.frz⟩
theorem swoP:SWO (ltOf cfP):=by
 have e':∀ x y,ltOf cfP x y=true↔¬LeP y x:=fun x y=>by
  show decide (cfP x y<0)=true↔_
  rw [decide_eq_true_eq]
  exact ci_lt x.1 x.2 y.1 y.2
 have e2:∀ x y,ltOf cfP x y=false↔LeP y x:=fun x y=>by
  rw [← Bool.not_eq_true,e',Classical.not_not]
 exact⟨fun x=>(e2 x x).2 (leI_refl _ _),fun x y z h1 h2=>by rw [e'] at *;exact leI_split h2 h1,fun x y z h1 h2=>by rw [e2] at *;exact LeP.trans h2 h1⟩
def sortPRen:Go.Shelf.Ren:=⟨fun | 6=>296 | 14=>311 | 15=>150 | 20=>319 | 21=>320 | 22=>321 | 23=>322 | 24=>323 | 25=>324 | 26=>325 | 27=>326 | 28=>208 | 29=>209 | 46=>333 | 47=>251 | 48=>252 | 49=>334 | 50=>335 | 57=>338 | n=>n,fun | 0=>0 | 3=>3 | 4=>4 | 5=>5 | 9=>9 | 22=>167 | 24=>179 | 25=>340 | 39=>165 | 45=>258 | 46=>259 | 50=>187 | 53=>265 | 55=>147 | 66=>292 | 70=>109 | 76=>308 | 77=>309 | n=>n,fun n=>n⟩
theorem laysSortP:SlLaysF0.n6 Tryz.prog sortPRen:={
 mixed:=by kernel_rfl,
 f6:=⟨ "slices.SortFunc[[]maquette/api.Pair,maquette/api.Pair]",by kernel_rfl,Tryz.func296.trans (congrArg some (by kernel_rfl))⟩,
 f14:=⟨ "slices.pdqsortCmpFunc[maquette/api.Pair]",by kernel_rfl,Tryz.func311.trans (congrArg some (by kernel_rfl))⟩,
 f15:=Tryz.func150.trans (congrArg some (by kernel_rfl)),
 f20:=⟨ "slices.insertionSortCmpFunc[maquette/api.Pair]",by kernel_rfl,Tryz.func319.trans (congrArg some (by kernel_rfl))⟩,
 f21:=⟨ "slices.heapSortCmpFunc[maquette/api.Pair]",by kernel_rfl,Tryz.func320.trans (congrArg some (by kernel_rfl))⟩,
 f22:=⟨ "slices.breakPatternsCmpFunc[maquette/api.Pair]",by kernel_rfl,Tryz.func321.trans (congrArg some (by kernel_rfl))⟩,
 f23:=⟨ "slices.choosePivotCmpFunc[maquette/api.Pair]",by kernel_rfl,Tryz.func322.trans (congrArg some (by kernel_rfl))⟩,
 f24:=⟨ "slices.reverseRangeCmpFunc[maquette/api.Pair]",by kernel_rfl,Tryz.func323.trans (congrArg some (by kernel_rfl))⟩,
 f25:=⟨ "slices.partialInsertionSortCmpFunc[maquette/api.Pair]",by kernel_rfl,Tryz.func324.trans (congrArg some (by kernel_rfl))⟩,
 f26:=⟨ "slices.partitionEqualCmpFunc[maquette/api.Pair]",by kernel_rfl,Tryz.func325.trans (congrArg some (by kernel_rfl))⟩,
 f27:=⟨ "slices.partitionCmpFunc[maquette/api.Pair]",by kernel_rfl,Tryz.func326.trans (congrArg some (by kernel_rfl))⟩,
 f28:=Tryz.func208.trans (congrArg some (by kernel_rfl)),
 f29:=Tryz.func209.trans (congrArg some (by kernel_rfl)),
 f46:=⟨ "slices.siftDownCmpFunc[maquette/api.Pair]",by kernel_rfl,Tryz.func333.trans (congrArg some (by kernel_rfl))⟩,
 f47:=Tryz.func251.trans (congrArg some (by kernel_rfl)),
 f48:=Tryz.func252.trans (congrArg some (by kernel_rfl)),
 f49:=⟨ "slices.medianAdjacentCmpFunc[maquette/api.Pair]",by kernel_rfl,Tryz.func334.trans (congrArg some (by kernel_rfl))⟩,
 f50:=⟨ "slices.medianCmpFunc[maquette/api.Pair]",by kernel_rfl,Tryz.func335.trans (congrArg some (by kernel_rfl))⟩,
 f57:=⟨ "slices.order2CmpFunc[maquette/api.Pair]",by kernel_rfl,Tryz.func338.trans (congrArg some (by kernel_rfl))⟩,
 t0:=Tryz.underlying0,a0:=Tryz.isAgg0,z0:=Tryz.sizeOf0,v0:=Tryz.zeroValue0,
 t3:=Tryz.underlying3,a3:=Tryz.isAgg3,z3:=Tryz.sizeOf3,v3:=Tryz.zeroValue3,
 t4:=Tryz.underlying4,a4:=Tryz.isAgg4,z4:=Tryz.sizeOf4,v4:=Tryz.zeroValue4,
 t5:=Tryz.underlying5,a5:=Tryz.isAgg5,z5:=Tryz.sizeOf5,v5:=Tryz.zeroValue5,
 t9:=Tryz.underlying9,a9:=Tryz.isAgg9,z9:=Tryz.sizeOf9,v9:=Tryz.zeroValue9,
 t22:=Tryz.underlying167,a22:=Tryz.isAgg167,z22:=Tryz.sizeOf167,v22:=Tryz.zeroValue167,
 t25:=Tryz.underlying340,a25:=Tryz.isAgg340,z25:=Tryz.sizeOf340,v25:=Tryz.zeroValue340,
 t39:=Tryz.underlying165,a39:=Tryz.isAgg165,z39:=Tryz.sizeOf165,v39:=Tryz.zeroValue165,
 t45:=Tryz.underlying258,a45:=Tryz.isAgg258,z45:=Tryz.sizeOf258,v45:=Tryz.zeroValue258,
 t46:=Tryz.underlying259,a46:=Tryz.isAgg259,z46:=Tryz.sizeOf259,v46:=Tryz.zeroValue259,
 t50:=Tryz.underlying187,a50:=Tryz.isAgg187,z50:=Tryz.sizeOf187,v50:=Tryz.zeroValue187,
 t53:=Tryz.underlying265,a53:=Tryz.isAgg265,z53:=Tryz.sizeOf265,v53:=Tryz.zeroValue265,
 t55:=Tryz.underlying147,a55:=Tryz.isAgg147,z55:=Tryz.sizeOf147,v55:=Tryz.zeroValue147,
 t66:=Tryz.underlying292,a66:=Tryz.isAgg292,z66:=Tryz.sizeOf292,v66:=Tryz.zeroValue292,
 t70:=Tryz.underlying109,a70:=Tryz.isAgg109,z70:=Tryz.sizeOf109,v70:=Tryz.zeroValue109,
 t76:=Tryz.underlying308,a76:=Tryz.isAgg308,z76:=Tryz.sizeOf308,v76:=Tryz.zeroValue308,
 t77:=Tryz.underlying309,a77:=Tryz.isAgg309,z77:=Tryz.sizeOf309,v77:=Tryz.zeroValue309 }
abbrev IN_w235:LayD:=⟨2,[(0,.own tPair 0),(1,.clo 297 [])],[.row 179 tPair],fun s=>[slotR s 0]⟩
abbrev OUT_w235:LayD:=⟨0,[],[.row 179 tPair],fun _=>[0]⟩
def F_w235 (b0:List (Ty.El tPair)):Option OUT_w235.El:=bif Nat.ble b0.length 1000000000 then some ((),sortP b0,()) else none
def E_w235:Ent:=.mkGen 296 [297] ⟨1,[.nilReg 0 179 tPair,.rowReg 0 179 tPair],IN_w235,OUT_w235,fun x=>F_w235 x.2.1⟩
theorem pair_cells {w:World}{R:Nat→Prop}{ρ:Nm}{l:List Pair}{arr:Array Value}(hv:VReps w R ρ (tPair.flat l) (arr.toList.take (l.length*2)))(hsz:l.length*2≤arr.size){j o:Nat}(hj:j<l.length)(ho:o<2):arr[j*2+o]?=(vP l[j])[o]?:=by
 have e:(tPair.flat l)[j*tPair.sz+o]?=(tPair.at l j).cells[o]?:=tPair.flat_get l hj ho
 have e:(tPair.flat l)[j*2+o]?=(tPair.at l j).cells[o]?:=e
 have ea:tPair.at l j=tPair.enc l[j]:=by
  unfold Ty.at
  rw [List.getD_eq_getElem?_getD,List.getElem?_eq_getElem hj];rfl
 rw [ea] at e
 have hlt:j*2+o<arr.size:=by omega
 have hu:(arr.toList.take (l.length*2))[j*2+o]?=some arr[j*2+o]:=by
  rw [List.getElem?_take_of_lt (by omega),Array.getElem?_toList,Array.getElem?_eq_getElem hlt]
 rw [Array.getElem?_eq_getElem hlt]
 match o,ho with
 | 0,_=>
  have e:(tPair.flat l)[j*2+0]?=some (.int .i64 l[j].1):=e
  have:=hv.2 _ _ _ e hu
  generalize arr[j*2+0]=u at this ⊢
  cases this;rfl
 | 1,_=>
  have e:(tPair.flat l)[j*2+1]?=some (.int .i64 l[j].2):=e
  have:=hv.2 _ _ _ e hu
  generalize arr[j*2+1]=u at this ⊢
  cases this;rfl
theorem flatP_get {d:Array Pair}{j o:Nat}(hj:j<d.size)(ho:o<2):(flatK vP 2 d)[j*2+o]?=(vP d[j])[o]?:=by
 have hlt:j*2+o<(flatK vP 2 d).size:=by rw [size_flatK];omega
 have h1:=get_flatK vP 2 d (j*2+o) (by omega)
 rw [getElem!_pos (flatK vP 2 d) (j*2+o) hlt] at h1
 rw [Array.getElem?_eq_getElem hlt,h1,show(j*2+o) / 2=j by omega,show(j*2+o) % 2=o by omega,getElem!_pos d j hj]
 match o,ho with
 | 0,_=>rfl
 | 1,_=>rfl
theorem holdsP {w:World}{R:Nat→Prop}{ρ:Nm}{l:List Pair}{arr:Array Value}{b:Nat}(hv:VReps w R ρ (tPair.flat l) (arr.toList.take (l.length*2)))(hsz:l.length*2≤arr.size)(hb:w.heap[b]?=some (.cells arr 179 (0,0))):HoldsK vP 2 w b 0 l.toArray:=by
 intro t ht
 rw [size_flatK] at ht
 have hl:l.toArray.size=l.length:=by simp
 rw [hl] at ht
 have hf:=flatP_get (d:=l.toArray) (j:=t / 2) (o:=t % 2) (by rw [hl];omega) (by omega)
 have hc:=pair_cells hv hsz (j:=t / 2) (o:=t % 2) (by omega) (by omega)
 rw [show t / 2*2+t % 2=t by omega] at hf hc
 have hlt:t<(flatK vP 2 l.toArray).size:=by rw [size_flatK,hl];exact ht
 refine⟨?_,by simp [World.frozen?,hb]⟩
 rw [getElem!_pos (flatK vP 2 l.toArray) t hlt,id,← Array.getElem?_eq_getElem hlt,hf]
 have e:(l.toArray)[t / 2]'(by rw [hl];omega)=l[t / 2]'(by omega):=by simp
 rw [e,← hc]
 simp [World.cell?,hb]
theorem putCells_getP {d cur:Array Value}(h:d.size≤cur.size){t:Nat}(ht:t<d.size):(putCells (id:Value→Value) 0 d cur)[t]?=d[t]?:=by
 have h2:t<cur.size:=by omega
 rw [Array.getElem?_eq_getElem ht]
 simp [putCells,ht,h2]
theorem sort_fromP {l:List Pair}{d:Array Pair}(hp:PermIn 0 l.length l.toArray d)(hs:SortedIn (ltOf cfP) 0 l.length d):d.size=l.length∧sortP l=d.toList:=by
 obtain⟨h1,_,h3⟩:=hp
 have hl:l.toArray.size=l.length:=by simp
 rw [hl] at h1
 have e1:l.toArray.extract 0 l.length=l.toArray:=by rw [Array.extract_eq_self_of_le (by rw [hl];exact Nat.le_refl _)]
 have e2:d.extract 0 l.length=d:=by rw [Array.extract_eq_self_of_le (by omega)]
 rw [e1,e2] at h3
 refine⟨h1,(sortP_of (by simpa using h3) ?_).symm⟩
 rw [List.pairwise_iff_getElem]
 intro i j hi hj hij
 rw [Array.length_toList] at hi hj
 have h4:=hs i j (Nat.zero_le _) hij (by omega)
 rw [getElem!_pos d i hi,getElem!_pos d j hj] at h4
 have h5:¬(cfP d[j] d[i]<0):=of_decide_eq_false h4
 rw [Array.getElem_toList,Array.getElem_toList]
 generalize d[i]=p at h5 ⊢
 generalize d[j]=q at h5 ⊢
 exact Classical.not_not.1 fun hn=>h5 ((ci_lt q.1 q.2 p.1 p.2).2 hn)
theorem ok_w235:(GenE.mk 1 [.nilReg 0 179 tPair,.rowReg 0 179 tPair] IN_w235 OUT_w235 (fun x=>F_w235 x.2.1)).Ok CT.P 296:=by
 intro x y hxy R ρ w vs hr hvs
 have hxy:F_w235 x.2.1=some y:=hxy
 unfold F_w235 at hxy
 generalize hl:x.2.1=l at hxy
 cases hb:Nat.ble l.length 1000000000 with
 | false=>rw [hb] at hxy;cases hxy
 | true=>
 rw [hb] at hxy
 have hlen:=Nat.le_of_ble_eq_true hb
 have hy:y=((),sortP l,()):=(Option.some.inj hxy).symm
 subst hy
 have hr:Rel R ρ [some (.row 179 tPair x.2.1)] w:=hr
 have hvs:VReps w R ρ [.orow tPair 0,.func 297 [] []] vs.toList:=hvs
 rw [hl] at hr
 obtain⟨u0,us,hu,h1,h2⟩:=hvs.cons_inv
 obtain⟨u1,us1,rfl,h3,h4⟩:=h2.cons_inv
 obtain rfl:=h4.nil_inv
 have hv:vs=#[u0,u1]:=Array.toList_inj.1 (by simpa using hu)
 subst hv
 have hone:∀ (m:List Pair) (k:Nat) (blk:ABlk),([some (ABlk.row 179 tPair m)]:AH)[k]?=some (some blk)→k=0∧blk=.row 179 tPair m:=by
  intro m k blk hk
  cases k with
  | zero=>simp at hk;exact⟨rfl,hk.symm⟩
  | succ k=>simp at hk
 show Calls CT.P 296 #[u0,u1] w fun q w'=>∃ R' ρ' u,q=.returned u∧VRep w' R' ρ' (.tup []) u∧Rel R' ρ' [some (.row 179 tPair (sortP l))] w'∧FrmW 1 R ρ [some (.row 179 tPair x.2.1)] w R' ρ' [some (.row 179 tPair (sortP l))] w'
 rw [hl]
 have hfn:u1=.func (.func 297) #[] #[]:=by
  cases h3 with
  | func vf vc e1 e2 _ _=>
   have e1:vf.size=0:=e1
   have e2:vc.size=0:=e2
   rw [Array.eq_empty_of_size_eq_zero e1,Array.eq_empty_of_size_eq_zero e2]
 subst hfn
 cases h1 with
 | @orow _ _ b N cap hn hg hlc hc=>
  obtain⟨b',N',hn',hB,hre⟩:=hr.live 0 _ rfl
  rw [hn] at hn'
  simp only [Option.some.injEq,Prod.mk.injEq] at hn'
  obtain⟨rfl,rfl⟩:=hn'
  have q1:N.len=l.length:=hB.1
  obtain⟨arr,q3,q4,q5,q6⟩:=row_cells hB hg
  rw [tPair.flat_len] at q5 q6
  have hs2:tPair.sz=2:=rfl
  rw [hs2] at q5 q6 hc
  have hsz:l.length*2≤arr.size:=by rw [q4];exact q5
  have hblk:b<w.heap.size:=(Array.getElem?_eq_some_iff.1 q3).1
  have hla:l.toArray.size=l.length:=by simp
  have hcmp:CmpLays Tryz.prog 297 #[] vP 2 cfP b 0 l.toArray.size w:=fun m os dk _ x y=>closP x y _
  have eg:∀ args w,(callFunc 297 args).run Tryz.prog w=.ok (.enter 297 args) w:=enters_of Tryz.func297 (by kernel_rfl) rfl
  have hs:=AnyQ.slices_SortFunc laysSortP 2 Tryz.isAgg179 Tryz.sizeOf179 vP (fun _=>rfl) (fun x v hv=>by
   rcases List.mem_cons.1 hv with h | hv
   ·subst h;rfl
   ·rcases List.mem_cons.1 hv with h | hv
    ·subst h;rfl
    ·cases hv) cfP swoP 297 #[] b 0 cap l.toArray w eg hcmp (holdsP q6 hsz q3) hblk (by rw [hla];omega)
  rw [hla] at hs
  rw [q1]
  refine Calls.mono (P:=Tryz.prog) (f:=296) hs ?_
  rintro e w' ⟨rfl,d',n,os,hp,hso,rfl⟩
  obtain⟨f1,f3⟩:=sort_fromP hp hso
  have hfk:(flatK vP 2 d').size=l.length*2:=by rw [size_flatK,f1]
  have hput:sortWorldK vP 2 w b 0 n d' os=grow (putRow id (Sort.ahead w n) b 0 (flatK vP 2 d')) os:=rfl
  rw [hput]
  generalize hrow:flatK vP 2 d'=row at *
  have hheap:(grow (putRow id (Sort.ahead w n) b 0 row) os).heap[b]?=some (.cells (putCells id 0 row arr) 179 (0,0)):=by
   rw [heap_grow_old _ _ (by simpa [putRow,mapBlock,Sort.ahead] using hblk)]
   simp [putRow,mapBlock,Sort.ahead,Array.getElem?_modify,q3,onCells]
  have hsz2:(grow (putRow id (Sort.ahead w n) b 0 row) os).heap.size=w.heap.size+os.size:=by
   rw [size_grow];simp [putRow,mapBlock,Sort.ahead]
  have hkeep:∀ k,k<w.heap.size→k≠b→(grow (putRow id (Sort.ahead w n) b 0 row) os).heap[k]?=w.heap[k]?:=by
   intro k hk hne
   rw [heap_grow_old _ _ (by simpa [putRow,mapBlock,Sort.ahead] using hk)]
   have:b≠k:=fun e=>hne e.symm
   simp [putRow,mapBlock,Sort.ahead,Array.getElem?_modify,this]
  have hnR:¬R b:=hre.notR hg
  have hlv:∀ c,Lv ρ [some (.row 179 tPair l)] c→c=b:=by
   rintro c ⟨k,blk,M,hk,hn',hg'⟩
   obtain⟨rfl,rfl⟩:=hone l k blk hk
   rw [hn] at hn'
   simp only [Option.some.injEq,Prod.mk.injEq] at hn'
   exact hn'.1.symm
  have hlv':∀ c,Lv ρ [some (.row 179 tPair (sortP l))] c→Lv ρ [some (.row 179 tPair l)] c:=by
   rintro c ⟨k,blk,M,hk,hn',hg'⟩
   obtain⟨rfl,rfl⟩:=hone _ k blk hk
   exact⟨0,_,M,rfl,hn',hg'⟩
  have hcells:VReps (grow (putRow id (Sort.ahead w n) b 0 row) os) R ρ (tPair.flat (sortP l)) ((putCells id 0 row arr).toList.take (tPair.flat (sortP l)).length):=by
   rw [tPair.flat_len,sortP_len,hs2]
   refine⟨by rw [List.length_take,tPair.flat_len,sortP_len,hs2];simp [putCells];omega,fun k c u hc' hu=>?_⟩
   have hk:k<l.length*2:=by
    have:=(List.getElem?_eq_some_iff.1 hc').1
    rw [tPair.flat_len,sortP_len,hs2] at this;exact this
   rw [List.getElem?_take_of_lt hk,Array.getElem?_toList,putCells_getP (by omega) (by omega)] at hu
   have hj:k / 2<l.length:=by omega
   have ho:k % 2<2:=by omega
   have hki:k=k / 2*2+k % 2:=by omega
   have hj':k / 2<d'.size:=by omega
   rw [hki,← hrow,flatP_get hj' ho] at hu
   have hjs:k / 2<(sortP l).length:=by rw [sortP_len];exact hj
   have g1:(tPair.flat (sortP l))[k / 2*tPair.sz+k % 2]?=(tPair.at (sortP l) (k / 2)).cells[k % 2]?:=tPair.flat_get (sortP l) hjs ho
   have g3:tPair.at (sortP l) (k / 2)=tPair.enc d'[k / 2]:=by
    unfold Ty.at
    congr 1
    rw [f3,List.getD_eq_getElem?_getD,Array.getElem?_toList,Array.getElem?_eq_getElem hj',Option.getD_some]
   rw [hki] at hc'
   have hc':(tPair.flat (sortP l))[k / 2*tPair.sz+k % 2]?=some c:=hc'
   rw [g1,g3] at hc'
   generalize d'[k / 2]=p at hc' hu
   match hm:k % 2,ho with
   | 0,_=>
    rw [hm] at hc' hu
    have e1:(some (AV.int .i64 p.1):Option AV)=some c:=hc'
    have e2:some (Value.int .i64 p.1)=some u:=hu
    cases e1;cases e2;exact .int _ _
   | 1,_=>
    rw [hm] at hc' hu
    have e1:(some (AV.int .i64 p.2):Option AV)=some c:=hc'
    have e2:some (Value.int .i64 p.2)=some u:=hu
    cases e1;cases e2;exact .int _ _
  have hsp:(putCells id 0 row arr).size=N.n:=by simp [putCells,q4]
  refine⟨R,ρ,_,rfl,.tup' .nil,⟨fun k blk hk=>?_,fun k k' bk bk' c Nk Nk' hk hk' _ _ _ _=>?_,fun k hk=>hr.dom k hk,fun c hc'=>by rw [hsz2];exact Nat.lt_of_lt_of_le (hr.ro c hc') (Nat.le_add_right _ _)⟩,
   ⟨rfl,rfl,rfl,by rw [hsz2];exact Nat.le_add_right _ _,fun _ h=>h,fun c hc' hnl=>hkeep c hc' fun e=>hnl (e▸⟨0,_,N,rfl,hn,hg⟩),fun c hl'=>.inl (hlv' c hl'),fun _ h=>.inl h,Nat.le_add_right _ _,fun _ _ _ h=>h⟩⟩
  ·obtain⟨rfl,rfl⟩:=hone _ k blk hk
   refine⟨b,N,hn,cells_row ⟨_,hheap,hsp,by rw [tPair.flat_len,sortP_len,hs2];exact q5,hcells⟩ (by rw [q1,sortP_len]),?_⟩
   rcases hre with⟨h5,h6⟩ | ⟨h5,_⟩
   ·exact .inl ⟨h5,h6⟩
   ·rw [hg] at h5;cases h5
  ·rw [(hone _ k _ hk).1,(hone _ k' _ hk').1]
 | @onil _ _ b N hn hg=>
  obtain⟨b',N',hn',hB,hre⟩:=hr.live 0 _ rfl
  rw [hn] at hn'
  simp only [Option.some.injEq,Prod.mk.injEq] at hn'
  obtain⟨rfl,rfl⟩:=hn'
  have hl0:l=[]:=by
   rcases hre with⟨h5,_⟩ | ⟨_,t,ty,h5⟩
   ·rw [hg] at h5;cases h5
   ·injection h5 with _ h6 h7
    subst h6
    exact eq_of_heq h7
  subst hl0
  have hs:=AnyF.slices_SortFunc_none laysSortP none 0 (.func (.func 297) #[] #[]) w
  refine Calls.mono (P:=Tryz.prog) (f:=296) hs ?_
  rintro e w' ⟨rfl,rfl⟩
  exact⟨R,ρ,_,rfl,.tup' .nil,hr,FrmW.refl _ _ _ _⟩
theorem e_w235:E_w235.Ok CT.P:=Ent.mkGen_ok ok_w235
end Go.DI.S
end
