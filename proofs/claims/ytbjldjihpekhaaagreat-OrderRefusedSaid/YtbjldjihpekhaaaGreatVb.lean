import Derived.Test.YtbjldjihpekhaaaGreatVa
import Derived.Test.YtbjldjihpekhaaaGreatIa
/- A scene with a thing, plain. No conditions. -/
set_option linter.unusedSimpArgs false
set_option linter.unusedVariables false
set_option maxRecDepth 100000
set_option maxHeartbeats 0
namespace Go.DI.S
open Go.Proofs
theorem v_18 (s:Scene)(t:Thing)(hs:Small s.2.2)(hr:rightB s=true)(ht:t.2.2.2.2.length≤1000000) :
  (∃ e:Int,e≠0∧F_18w s t=some ((noScene,e,()):Els [tScene,I])) ∨
  (∃ l',Has s.2.2 t l'∧Small l'∧rightB (s.1,s.2.1,l')=true∧F_18w s t=some (((s.1,s.2.1,l'),0,()):Els [tScene,I])∧(¬Is s.2.2 (nid t)→∃ i,i≤s.2.2.length∧l'=s.2.2.take i++[t]++s.2.2.drop i)):=by
 have hR:=right_of hr
 have h40:=hR.len
 have ht':t.2.2.2.2.length≤1000000000:=by omega
 have hv20:=v_20 s hs
 rw [hr] at hv20
 cases hrt:rt t with
 | false=>
  refine .inl ⟨9,by decide,?_⟩
  unfold F_18w
  exact bind_ofV hv20 (noV rfl (bind_ofV (v_45 t ht') (yesV (by rw [hrt];rfl) rfl)))
 | true=>
 obtain⟨i,b,h1,h2,h3⟩:=v_48 s (nid t) hs.1
 -- what comes of the new list
 have cont:∀ l':List Thing,Has s.2.2 t l'→l'.length≤41→∃ (r:Els [tScene,I]),
   (bif decide ((l'.length:Int)>40) then some ((noScene,(12:Int),()):Els [tScene,I]) else
    bif decide (t.1≥s.2.1) then some (noScene,(10:Int),()) else
    (F_50 (s.1,s.2.1,l') t).bind fun w=>
    bif !w.1 then some (noScene,(10:Int),()) else
    (F_51 (s.1,s.2.1,l')).bind fun ap=>
    bif !ap.1 then some (noScene,(15:Int),()) else
    bif(getB s.2.2 (nid t)).2 then
     (bif(getB s.2.2 (nid t)).1.2.1==(1:Int) then(F_52 (s.1,s.2.1,l')).bind fun e=>bif !e.1 then some (noScene,(15:Int),()) else((F_53 (s.1,s.2.1,l')).bind fun tr=>bif !tr.1 then some (noScene,(11:Int),()) else some ((s.1,s.2.1,l'),(0:Int),()))
      else((F_53 (s.1,s.2.1,l')).bind fun tr=>bif !tr.1 then some (noScene,(11:Int),()) else some ((s.1,s.2.1,l'),(0:Int),())))
    else((F_53 (s.1,s.2.1,l')).bind fun tr=>bif !tr.1 then some (noScene,(11:Int),()) else some ((s.1,s.2.1,l'),(0:Int),())))=some r ∧
   ((∃ e:Int,e≠0∧r=(noScene,e,()))∨(r=((s.1,s.2.1,l'),(0:Int),())∧rightB (s.1,s.2.1,l')=true)):=by
  intro l' hh hl'
  have hs':Small l':=small_has hs.2 ht' hh (by omega)
  by_cases c1:(l'.length:Int)>40
  ·exact⟨_,yesV (decide_eq_true c1) rfl,.inl ⟨12,by decide,rfl⟩⟩
  by_cases c2:t.1≥s.2.1
  ·exact⟨_,noV (decide_eq_false c1) (yesV (decide_eq_true c2) rfl),.inl ⟨10,by decide,rfl⟩⟩
  have hid:nid t<s.2.1:=Int.not_le.1 c2
  have e50:=v_50 (s.1,s.2.1,l') t hs' ht'
  cases c3:endB (s.1,s.2.1,l') t with
  | false=>
   rw [c3] at e50
   exact⟨_,noV (decide_eq_false c1) (noV (decide_eq_false c2) (bind_ofV e50 (yesV rfl rfl))),.inl ⟨10,by decide,rfl⟩⟩
  | true=>
  rw [c3] at e50
  have e51:=v_51 (s.1,s.2.1,l') hs'
  cases c4:apartB l' with
  | false=>
   have e51:F_51 (s.1,s.2.1,l')=some ((apartB l',()):Els [.bool]):=e51
   rw [c4] at e51
   exact⟨_,noV (decide_eq_false c1) (noV (decide_eq_false c2) (bind_ofV e50 (noV rfl (bind_ofV e51 (yesV rfl rfl))))),.inl ⟨15,by decide,rfl⟩⟩
  | true=>
  have e51:F_51 (s.1,s.2.1,l')=some ((apartB l',()):Els [.bool]):=e51
  rw [c4] at e51
  have e52:F_52 (s.1,s.2.1,l')=some ((l'.all (endB (s.1,s.2.1,l')),()):Els [.bool]):=v_52 (s.1,s.2.1,l') hs'
  have e53:F_53 (s.1,s.2.1,l')=some ((treeB l',()):Els [.bool]):=v_53 (s.1,s.2.1,l') hs'
  have tree:∃ r:Els [tScene,I],((F_53 (s.1,s.2.1,l')).bind fun tr=>bif !tr.1 then some ((noScene,(11:Int),()):Els [tScene,I]) else some ((s.1,s.2.1,l'),(0:Int),()))=some r∧((r=(noScene,(11:Int),()))∨(r=((s.1,s.2.1,l'),(0:Int),())∧treeB l'=true)):=by
   cases c5:treeB l' with
   | false=>rw [c5] at e53;exact⟨_,bind_ofV e53 (yesV rfl rfl),.inl rfl⟩
   | true=>rw [c5] at e53;exact⟨_,bind_ofV e53 (noV rfl rfl),.inr ⟨rfl,rfl⟩⟩
  obtain⟨r,hr1,hr2⟩:=tree
  have done:((∃ u∈s.2.2,nid u=nid t∧u.2.1=1)→l'.all (endB (s.1,s.2.1,l'))=true)→(∃ e:Int,e≠0∧r=(noScene,e,()))∨(r=((s.1,s.2.1,l'),(0:Int),())∧rightB (s.1,s.2.1,l')=true):=by
   intro he
   rcases hr2 with rfl | ⟨rfl,htr⟩
   · exact .inl ⟨11,by decide,rfl⟩
   · exact .inr ⟨rfl,with_right hs hr hh hs' hrt hid (by omega) c3 c4 htr he⟩
  cases c6:(getB s.2.2 (nid t)).2 with
  | false=>
   refine⟨r,noV (decide_eq_false c1) (noV (decide_eq_false c2) (bind_ofV e50 (noV rfl (bind_ofV e51 (noV rfl (noV rfl hr1)))))),done ?_⟩
   rintro ⟨u,hu,e,_⟩
   have:=hR.asc.getB hu
   rw [e] at this
   rw [this] at c6
   cases c6
  | true=>
   cases c7:((getB s.2.2 (nid t)).1.2.1==(1:Int)) with
   | false=>
     refine⟨r,noV (decide_eq_false c1) (noV (decide_eq_false c2) (bind_ofV e50 (noV rfl (bind_ofV e51 (noV rfl (yesV rfl (noV rfl hr1))))))),done ?_⟩
     rintro ⟨u,hu,e,hk⟩
     have:=hR.asc.getB hu
     rw [e] at this
     rw [this] at c7
     rw [hk] at c7
     cases c7
   | true=>
     cases c8:l'.all (endB (s.1,s.2.1,l')) with
     | false=>
       rw [c8] at e52
       exact⟨_,noV (decide_eq_false c1) (noV (decide_eq_false c2) (bind_ofV e50 (noV rfl (bind_ofV e51 (noV rfl (yesV rfl (yesV rfl (bind_ofV e52 (yesV rfl rfl))))))))),.inl ⟨15,by decide,rfl⟩⟩
     | true=>
       rw [c8] at e52
       exact⟨r,noV (decide_eq_false c1) (noV (decide_eq_false c2) (bind_ofV e50 (noV rfl (bind_ofV e51 (noV rfl (yesV rfl (yesV rfl (bind_ofV e52 (noV rfl hr1))))))))),done (fun _=>c8)⟩
 cases hb:b with
 | true=>
  subst hb
  obtain⟨u,hu,e⟩:=h3.1 rfl
  have hil:=len_of hu
  have hh:=has_set hR.asc hu e
  obtain⟨r,k1,k2⟩:=cont _ hh (by simp;omega)
  have hF:F_18w s t=some r:=by
   unfold F_18w
   refine bind_ofV hv20 (noV rfl (bind_ofV (v_45 t ht') (noV (by rw [hrt];rfl) (bind_ofV (v_46 _ ht') (bind_ofV (v_47 _ hs) (bind_ofV (v_23 s (nid t) hs.1 hs.2) (bind_ofV h1 (yesV rfl (yesV (dec_in hil) ?_)))))))))
   exact k1
  rcases k2 with⟨e,he,rfl⟩ | ⟨rfl,hr'⟩
  ·exact .inl ⟨e,he,hF⟩
  ·exact .inr ⟨_,hh,small_has hs.2 ht' hh (by simp;omega),hr',hF,fun hn=>absurd ⟨u,List.mem_of_getElem? hu,e⟩ hn⟩
 | false=>
  subst hb
  have hn:¬Is s.2.2 (nid t):=by
   intro hn
   have:=h3.2 (place_is hR.asc h2 hn)
   cases this
  have hh:=has_ins hR.asc h2 hn
  have hil:=h2.1
  have hll:(s.2.2.take i++[t]++s.2.2.drop i).length≤41:=by simp;omega
  obtain⟨r,k1,k2⟩:=cont _ hh hll
  have hins:F_49g (i:Int) s.2.2 [t]=some (((),()),s.2.2.take i++[t]++s.2.2.drop i,()):=by
   unfold F_49g insT
   rw [decide_eq_true (by omega:(0:Int)≤(i:Int)),decide_eq_true (by omega:(i:Int)≤(s.2.2.length:Int)),show Nat.beq [t].length 1=true from rfl,Nat.ble_eq_true_of_le (by omega:s.2.2.length≤1000000)]
   rfl
  have hF:F_18w s t=some r:=by
   unfold F_18w
   refine bind_ofV hv20 (noV rfl (bind_ofV (v_45 t ht') (noV (by rw [hrt];rfl) (bind_ofV (v_46 _ ht') (bind_ofV (v_47 _ hs) (bind_ofV (v_23 s (nid t) hs.1 hs.2) (bind_ofV h1 (noV rfl (bind_ofV hins ?_)))))))))
   exact k1
  rcases k2 with⟨e,he,rfl⟩ | ⟨rfl,hr'⟩
  ·exact .inl ⟨e,he,hF⟩
  ·exact .inr ⟨_,hh,small_has hs.2 ht' hh (by omega),hr',hF,fun _=>⟨i,hil,rfl⟩⟩
end Go.DI.S
