import Derived.Test.YtbjldjihpekhaaaGreatXb
import Derived.Test.YtbjldjihpekhaaaGreatVb
import Derived.Test.YtbjldjihpekhaaaGreatMc
/- A new group, plain. No conditions. -/
set_option linter.unusedSimpArgs false
set_option linter.unusedVariables false
set_option maxRecDepth 100000
set_option maxHeartbeats 0
namespace Go.DI.S
open Go.Proofs
def offB (s:Scene)(n:Int):Bool:=bif decide (n<1) then true else bif decide (n>1000000) then true else n==s.2.1
theorem v_80 (n:Int)(s:Scene):F_80 n s=some ((offB s n,()):Els [.bool]):=by
 unfold F_80 offB
 cases decide (n<1) with
 | true=>rfl
 | false=>
  cases decide (n>1000000) <;> rfl
theorem v_79_80 (l:List Int)(s:Scene)(hl:l.length≤1000000000):F_79_80 l (s,())=some ((l.any (offB s),()):Els [.bool]):=by
 have h:=find_loop (G:=fun x=>G_120_80_2 x.1.1 x.1.2.1 x.1.2.2.1 x.1.2.2.2.1) (m:=fuel) l (offB s) (fun k=>((l,(s,()),(l.length:Int),(k:Int),()),())) (fun k=>.inr (((k:Int),()),())) (.inl ((),()))
  (fun k x hx=>?_) ?_ (fuel_lt hl)
 ·have h2:F_120_80 l (s,())=some ((idxI l (offB s),()):Els [I]):=by
   unfold F_120_80 R_120_80_2 idxI
   rw [show(0:Int)=((0:Nat):Int) from rfl,h]
   cases l.findIdx? (offB s) <;> rfl
  unfold F_79_80
  rw [h2]
  show some ((decide (idxI l (offB s)≥0),()):Els [.bool])=_
  rw [idxI_ge]
 ·have hk:=len_of hx
  simp only [G_120_80_2,dec_lt hk,dec_in hk,cond_true,getD_of hx,wrap_up hk (by omega),v_80,Option.bind_some]
  cases offB s x <;> rfl
 ·simp only [G_120_80_2,dec_end,cond_false]
theorem right_next {s:Scene}(hs:Small s.2.2)(hr:rightB s=true)(hn:s.2.1≤1000000):rightB (s.1,s.2.1+1,s.2.2)=true:=by
 have h:=right_of hr
 refine right_mk (s:=(s.1,s.2.1+1,s.2.2)) h.asc (fun t ht=>?_) h.len ⟨?_,?_⟩ (show nearB s.1=true from near_of hr) (fun t ht=>?_) h.apart fun t ht j hj=>?_
 ·obtain⟨h1,h2,h3⟩:=h.low t ht
  exact⟨h1,Int.lt_trans h2 (Int.lt_succ _),h3⟩
 ·exact Int.le_trans h.next.1 (Int.le_of_lt (Int.lt_succ _))
 ·exact Int.add_le_add_right hn 1
 ·obtain⟨e1,e2⟩:=Cp.end_get (h.ends t ht)
  exact Cp.end_mk (s:=(s.1,s.2.1+1,s.2.2)) e1 fun n hn'=>has_of (s:=(s.1,s.2.1+1,s.2.2)) hs h.asc (h.member hs ht hn')
 ·show upn s.2.2 (j+1) (nid t)≠nid t
  exact h.acyclic hs ⟨t,ht,rfl⟩ (j+1) (by omega)
theorem v_41w (s:Scene)(a:List Int)(hs:Small s.2.2)(hr:rightB s=true)(ha:a.length≤1000) :
  (∃ e:Int,e≠0∧F_41w s a=some ((noScene,0,e,()):Els [tScene,I,I])) ∨
  (∃ l',rightB (s.1,s.2.1+1,l')=true∧Small l'∧l'.length=s.2.2.length+1∧Is l' s.2.1∧F_41w s a=some (((s.1,s.2.1+1,l'),s.2.1,0,()):Els [tScene,I,I])):=by
 have hR:=right_of hr
 have e20:=v_20 s hs
 rw [hr] at e20
 have e46:=v_46o a (by omega)
 have e74:F_74 a=some ((),sortI a,()):=by
  unfold F_74
  rw [show Nat.ble a.length 1000000=true from Nat.ble_eq_true_of_le (by omega)]
  rfl
 have hl:(sortI a).length=a.length:=sortI_len a
 have e46':=v_46o (sortI a) (by omega)
 have e78:F_78 (sortI a)=some (compI (sortI a)):=by
  unfold F_78
  rw [show Nat.ble (sortI a).length 1000000=true from Nat.ble_eq_true_of_le (by omega)]
  rfl
 have e79:=v_79_80 (sortI a) s (by omega)
 unfold F_41w
 cases c1:decide ((((sortI a).length:Nat):Int)<(1:Int)) with
 | true=>exact .inl ⟨9,by decide,bind_ofV e46 (bind_ofV e74 (bind_ofV e20 (noV rfl (yesV c1 rfl))))⟩
 | false=>
 cases c2:decide ((((sortI a).length:Nat):Int)>(8:Int)) with
 | true=>exact .inl ⟨9,by decide,bind_ofV e46 (bind_ofV e74 (bind_ofV e20 (noV rfl (noV c1 (yesV c2 rfl)))))⟩
 | false=>
 cases c3:decide ((((compI (sortI a)).length:Nat):Int)<(((sortI a).length:Nat):Int)) with
 | true=>exact .inl ⟨9,by decide,bind_ofV e46 (bind_ofV e74 (bind_ofV e20 (noV rfl (noV c1 (noV c2 (bind_ofV e46' (bind_ofV e78 (yesV c3 rfl))))))))⟩
 | false=>
 cases c4:(sortI a).any (offB s) with
 | true=>
  rw [c4] at e79
  exact .inl ⟨9,by decide,bind_ofV e46 (bind_ofV e74 (bind_ofV e20 (noV rfl (noV c1 (noV c2 (bind_ofV e46' (bind_ofV e78 (noV c3 (bind_ofV e79 (yesV rfl rfl))))))))))⟩
 | false=>
 rw [c4] at e79
 by_cases c5:s.2.1>1000000
 ·exact .inl ⟨12,by decide,bind_ofV e46 (bind_ofV e74 (bind_ofV e20 (noV rfl (noV c1 (noV c2 (bind_ofV e46' (bind_ofV e78 (noV c3 (bind_ofV e79 (noV rfl (yesV (decide_eq_true c5) rfl)))))))))))⟩
 have c5':s.2.1≤1000000:=Int.not_lt.1 c5
 have hr':=right_next hs hr c5'
 have hw:IntKind.i64.wrap (s.2.1+1)=s.2.1+1:=by
  have key:∀ n:Int,1≤n→n≤1000001→IntKind.i64.wrap (n+1)=n+1:=fun n h1 h2=>wrap64 (by omega) (by omega)
  exact key _ hR.next.1 hR.next.2
 have hni:¬Is s.2.2 s.2.1:=by
  rintro ⟨t,ht,e⟩
  have:=(hR.low t ht).2.1
  exact Int.lt_irrefl _ (e▸this)
 rcases v_18 (s.1,s.2.1+1,s.2.2) (s.2.1,3,noB,noJ,sortI a) hs hr' (by show(sortI a).length≤1000000;omega) with⟨e,he,h18⟩ | ⟨l',h1,h2,h3,h18,h4⟩
 ·refine .inl ⟨e,he,bind_ofV e46 (bind_ofV e74 (bind_ofV e20 (noV rfl (noV c1 (noV c2 (bind_ofV e46' (bind_ofV e78 (noV c3 (bind_ofV e79 (noV rfl (noV (decide_eq_false c5) ?_)))))))))))⟩
  show(F_18w (s.1,IntKind.i64.wrap (s.2.1+1),s.2.2) (s.2.1,3,noB,noJ,sortI a)).bind _=_
  rw [hw]
  refine bind_ofV h18 (yesV ?_ rfl)
  show(e != 0)=true
  simpa using he
 ·obtain⟨i,hi,hl'⟩:=h4 hni
  refine .inr ⟨l',h3,h2,?_,⟨_,h1.new,rfl⟩,bind_ofV e46 (bind_ofV e74 (bind_ofV e20 (noV rfl (noV c1 (noV c2 (bind_ofV e46' (bind_ofV e78 (noV c3 (bind_ofV e79 (noV rfl (noV (decide_eq_false c5) ?_)))))))))))⟩
  ·have hi:i≤s.2.2.length:=hi
   rw [hl']
   show((s.2.2.take i++[_]++s.2.2.drop i).length)=_
   simp only [List.length_append,List.length_take,List.length_drop,List.length_cons,List.length_nil]
   omega
  ·show(F_18w (s.1,IntKind.i64.wrap (s.2.1+1),s.2.2) (s.2.1,3,noB,noJ,sortI a)).bind _=_
   rw [hw]
   exact bind_ofV h18 (noV rfl rfl)
end Go.DI.S
