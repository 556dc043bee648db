import Derived.Test.YtbjldjihpekhaaaGreatXb
import Derived.Test.YtbjldjihpekhaaaGreatVb
import Derived.Test.YtbjldjihpekhaaaGreatMc
/- A new group, plain. No conditions. -/
set_option linter.unusedSimpArgs false
set_option linter.unusedVariables false
set_option maxRecDepth 100000
set_option maxHeartbeats 0
namespace Go.DI.S
open Go.Proofs
def aCX (s:aZ)(n:Int):Bool:=bif decide (n<1) then true else bif decide (n>1000000) then true else n==s.2.1
theorem bHo (n:Int)(s:aZ):aZr n s=some ((aCX s n,()):aS [.bool]):=by
 unfold aZr aCX;cases decide (n<1) with
 | true=>rfl
 | false=>
  cases decide (n>1000000) <;> rfl
theorem a0i (l:List Int)(s:aZ)(hl:l.length≤1000000000):NX l (s,())=some ((l.any (aCX s),()):aS [.bool]):=by
 have h:=iJ (G:=fun x=>pV x.1.1 x.1.2.1 x.1.2.2.1 x.1.2.2.2.1) (m:=fuel) l (aCX s) (fun k=>((l,(s,()),(l.length:Int),(k:Int),()),())) (fun k=>.inr (((k:Int),()),())) (.inl ((),()))
  (fun k x hx=>?_) ?_ (fuel_lt hl)
 ·have h2:yG l (s,())=some ((GQ l (aCX s),()):aS [I]):=by
   unfold yG DV GQ;rw [show(0:Int)=((0:Nat):Int) from rfl,h];cases l.findIdx? (aCX s) <;> rfl
  unfold NX;rw [h2];show some ((decide (GQ l (aCX s)≥0),()):aS [.bool])=_;rw [aM9]
 ·have hk:=dF hx;simp only [pV,dec_lt hk,bI hk,cond_true,bB hx,aN hk (by omega),bHo,aEk];cases aCX s x <;> rfl
 ·simp only [pV,bA,cond_false]
theorem T9 {s:aZ}(hs:Small s.2.2)(hr:bK s=true)(hn:s.2.1≤1000000):bK (s.1,s.2.1+1,s.2.2)=true:=by
 have h:=bR hr;refine yS (s:=(s.1,s.2.1+1,s.2.2)) h.mS (fun t ht=>?_) h.len ⟨?_,?_⟩ (show m0 s.1=true from wL hr) (fun t ht=>?_) h.apart fun t ht j hj=>?_
 ·obtain⟨h1,h2,h3⟩:=h.low t ht;exact⟨h1,Int.lt_trans h2 (Int.lt_succ _),h3⟩
 ·exact Int.le_trans h.next.1 (Int.le_of_lt (Int.lt_succ _))
 ·exact Int.add_le_add_right hn 1
 ·obtain⟨e1,e2⟩:=Cp.rE (h.ends t ht);exact Cp.KD (s:=(s.1,s.2.1+1,s.2.2)) e1 fun n hn'=>DT (s:=(s.1,s.2.1+1,s.2.2)) hs h.mS (h.fS hs ht hn')
 ·show kG s.2.2 (j+1) (aT t)≠aT t;exact h.n5 hs ⟨t,ht,rfl⟩ (j+1) (by omega)
theorem aGN {l l':List Thing}{t:Thing}(h:Has l t l'):∀ n,Is l n→Is l' n:=by
 rintro n ⟨v,hv,e⟩;by_cases k:aT v=aT t
 ·exact⟨t,h.new,by rw [← k];exact e⟩
 ·exact⟨v,h.keep v hv k,e⟩
theorem bCI (s:aZ)(a:List Int)(hs:Small s.2.2)(hr:bK s=true)(ha:a.length≤1000) :
  (∃ e:Int,e≠0∧ZD s a=some ((eX,0,e,()):aS [aD,I,I])) ∨
  (∃ l',bK (s.1,s.2.1+1,l')=true∧Small l'∧l'.length=s.2.2.length+1∧Is l' s.2.1∧(∀ n,Is s.2.2 n→Is l' n)∧ZD s a=some (((s.1,s.2.1+1,l'),s.2.1,0,()):aS [aD,I,I])):=by
 have hR:=bR hr;have e20:=JI s hs;rw [hr] at e20;have e46:=ZS a (by omega);have e74:xD a=some ((),cI a,()):=by
  unfold xD;rw [show Nat.ble a.length 1000000=true from aPp (by omega)];rfl
 have hl:(cI a).length=a.length:=gN a;have aVc:=ZS (cI a) (by omega);have e78:aBW (cI a)=some (iP (cI a)):=by
  unfold aBW;rw [show Nat.ble (cI a).length 1000000=true from aPp (by omega)];rfl
 have e79:=a0i (cI a) s (by omega);unfold ZD;cases c1:decide ((((cI a).length:Nat):Int)<(1:Int)) with
 | true=>exact .inl ⟨9,by decide,aB e46 (aB e74 (aB e20 (cU rfl (bZ c1 rfl))))⟩
 | false=>
 cases c2:decide ((((cI a).length:Nat):Int)>(8:Int)) with
 | true=>exact .inl ⟨9,by decide,aB e46 (aB e74 (aB e20 (cU rfl (cU c1 (bZ c2 rfl)))))⟩
 | false=>
 cases c3:decide ((((iP (cI a)).length:Nat):Int)<(((cI a).length:Nat):Int)) with
 | true=>exact .inl ⟨9,by decide,aB e46 (aB e74 (aB e20 (cU rfl (cU c1 (cU c2 (aB aVc (aB e78 (bZ c3 rfl))))))))⟩
 | false=>
 cases c4:(cI a).any (aCX s) with
 | true=>
  rw [c4] at e79;exact .inl ⟨9,by decide,aB e46 (aB e74 (aB e20 (cU rfl (cU c1 (cU c2 (aB aVc (aB e78 (cU c3 (aB e79 (bZ rfl rfl))))))))))⟩
 | false=>
 rw [c4] at e79;by_cases c5:s.2.1>1000000
 ·exact .inl ⟨12,by decide,aB e46 (aB e74 (aB e20 (cU rfl (cU c1 (cU c2 (aB aVc (aB e78 (cU c3 (aB e79 (cU rfl (bZ (aKO c5) rfl)))))))))))⟩
 have c5':s.2.1≤1000000:=Int.not_lt.1 c5;have hr':=T9 hs hr c5';have hw:IntKind.i64.wrap (s.2.1+1)=s.2.1+1:=by
  have key:∀ n:Int,1≤n→n≤1000001→IntKind.i64.wrap (n+1)=n+1:=fun n h1 h2=>wrap64 (by omega) (by omega);exact key _ hR.next.1 hR.next.2
 have hni:¬Is s.2.2 s.2.1:=by
  rintro ⟨t,ht,e⟩;have:=(hR.low t ht).2.1;exact Int.lt_irrefl _ (e▸this)
 rcases bBy (s.1,s.2.1+1,s.2.2) (s.2.1,3,noB,noJ,cI a) hs hr' (by show(cI a).length≤1000000;omega) with⟨e,he,h18⟩ | ⟨l',h1,h2,h3,h18,h4⟩
 ·refine .inl ⟨e,he,aB e46 (aB e74 (aB e20 (cU rfl (cU c1 (cU c2 (aB aVc (aB e78 (cU c3 (aB e79 (cU rfl (cU (aKP c5) ?_)))))))))))⟩;show(nP (s.1,IntKind.i64.wrap (s.2.1+1),s.2.2) (s.2.1,3,noB,noJ,cI a)).bind _=_;rw [hw];refine aB h18 (bZ ?_ rfl);show(e != 0)=true;simpa using he
 ·obtain⟨i,hi,hl'⟩:=h4 hni;refine .inr ⟨l',h3,h2,?_,⟨_,h1.new,rfl⟩,aGN h1,aB e46 (aB e74 (aB e20 (cU rfl (cU c1 (cU c2 (aB aVc (aB e78 (cU c3 (aB e79 (cU rfl (cU (aKP c5) ?_)))))))))))⟩
  ·have hi:i≤s.2.2.length:=hi;rw [hl'];show((s.2.2.take i++[_]++s.2.2.drop i).length)=_;simp only [aPk,aP6,a9s,aQO,List.length_nil];omega
  ·show(nP (s.1,IntKind.i64.wrap (s.2.1+1),s.2.2) (s.2.1,3,noB,noJ,cI a)).bind _=_;rw [hw];exact aB h18 (cU rfl rfl)
end Go.DI.S
