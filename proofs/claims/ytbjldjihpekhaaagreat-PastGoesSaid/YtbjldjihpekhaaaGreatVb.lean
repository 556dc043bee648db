import Derived.Test.YtbjldjihpekhaaaGreatVa
import Derived.Test.YtbjldjihpekhaaaGreatIa
/- A scene with a thing, plain. No conditions. -/
set_option linter.unusedSimpArgs false
set_option linter.unusedVariables false
set_option maxRecDepth 100000
set_option maxHeartbeats 0
namespace Go.DI.S
open Go.Proofs
theorem bBy (s:aZ)(t:Thing)(hs:Small s.2.2)(hr:bK s=true)(ht:t.2.2.2.2.length≤1000000) :
  (∃ e:Int,e≠0∧nP s t=some ((eX,e,()):aS [aD,I])) ∨
  (∃ l',Has s.2.2 t l'∧Small l'∧bK (s.1,s.2.1,l')=true∧nP s t=some (((s.1,s.2.1,l'),0,()):aS [aD,I])∧(¬Is s.2.2 (aT t)→∃ i,i≤s.2.2.length∧l'=s.2.2.take i++[t]++s.2.2.drop i)):=by
 have hR:=bR hr;have h40:=hR.len;have ht':t.2.2.2.2.length≤1000000000:=by omega
 have aY8:=JI s hs;rw [hr] at aY8;cases hrt:rt t with
 | false=>
  refine .inl ⟨9,by decide,?_⟩;unfold nP;exact aB aY8 (cU rfl (aB (XK t ht') (bZ (by rw [hrt];rfl) rfl)))
 | true=>
 obtain⟨i,b,h1,h2,h3⟩:=aY2 s (aT t) hs.1
 -- what comes of the new list
 have cont:∀ l':List Thing,Has s.2.2 t l'→l'.length≤41→∃ (r:aS [aD,I]),
   (bif decide ((l'.length:Int)>40) then some ((eX,(12:Int),()):aS [aD,I]) else
    bif decide (t.1≥s.2.1) then some (eX,(10:Int),()) else
    (aPf (s.1,s.2.1,l') t).bind fun w=>
    bif !w.1 then some (eX,(10:Int),()) else
    (QK (s.1,s.2.1,l')).bind fun ap=>
    bif !ap.1 then some (eX,(15:Int),()) else
    bif(bW s.2.2 (aT t)).2 then
     (bif(bW s.2.2 (aT t)).1.2.1==(1:Int) then(XI (s.1,s.2.1,l')).bind fun e=>bif !e.1 then some (eX,(15:Int),()) else((QW (s.1,s.2.1,l')).bind fun tr=>bif !tr.1 then some (eX,(11:Int),()) else some ((s.1,s.2.1,l'),(0:Int),()))
      else((QW (s.1,s.2.1,l')).bind fun tr=>bif !tr.1 then some (eX,(11:Int),()) else some ((s.1,s.2.1,l'),(0:Int),())))
    else((QW (s.1,s.2.1,l')).bind fun tr=>bif !tr.1 then some (eX,(11:Int),()) else some ((s.1,s.2.1,l'),(0:Int),())))=some r ∧
   ((∃ e:Int,e≠0∧r=(eX,e,()))∨(r=((s.1,s.2.1,l'),(0:Int),())∧bK (s.1,s.2.1,l')=true)):=by
  intro l' hh hl';have hs':Small l':=JJ hs.2 ht' hh (by omega);by_cases c1:(l'.length:Int)>40
  ·exact⟨_,bZ (aKO c1) rfl,.inl ⟨12,by decide,rfl⟩⟩
  by_cases c2:t.1≥s.2.1
  ·exact⟨_,cU (aKP c1) (bZ (aKO c2) rfl),.inl ⟨10,by decide,rfl⟩⟩
  have hid:aT t<s.2.1:=Int.not_le.1 c2;have e50:=bGG (s.1,s.2.1,l') t hs' ht';cases c3:nZ (s.1,s.2.1,l') t with
  | false=>
   rw [c3] at e50;exact⟨_,cU (aKP c1) (cU (aKP c2) (aB e50 (bZ rfl rfl))),.inl ⟨10,by decide,rfl⟩⟩
  | true=>
  rw [c3] at e50;have e51:=bBr (s.1,s.2.1,l') hs';cases c4:nK l' with
  | false=>
   have e51:QK (s.1,s.2.1,l')=some ((nK l',()):aS [.bool]):=e51;rw [c4] at e51;exact⟨_,cU (aKP c1) (cU (aKP c2) (aB e50 (cU rfl (aB e51 (bZ rfl rfl))))),.inl ⟨15,by decide,rfl⟩⟩
  | true=>
  have e51:QK (s.1,s.2.1,l')=some ((nK l',()):aS [.bool]):=e51;rw [c4] at e51;have e52:XI (s.1,s.2.1,l')=some ((l'.all (nZ (s.1,s.2.1,l')),()):aS [.bool]):=bBq (s.1,s.2.1,l') hs';have e53:QW (s.1,s.2.1,l')=some ((FN l',()):aS [.bool]):=bBt (s.1,s.2.1,l') hs';have tree:∃ r:aS [aD,I],((QW (s.1,s.2.1,l')).bind fun tr=>bif !tr.1 then some ((eX,(11:Int),()):aS [aD,I]) else some ((s.1,s.2.1,l'),(0:Int),()))=some r∧((r=(eX,(11:Int),()))∨(r=((s.1,s.2.1,l'),(0:Int),())∧FN l'=true)):=by
   cases c5:FN l' with
   | false=>rw [c5] at e53;exact⟨_,aB e53 (bZ rfl rfl),.inl rfl⟩
   | true=>rw [c5] at e53;exact⟨_,aB e53 (cU rfl rfl),.inr ⟨rfl,rfl⟩⟩
  obtain⟨r,qQ,hr2⟩:=tree;have done:((∃ u∈s.2.2,aT u=aT t∧u.2.1=1)→l'.all (nZ (s.1,s.2.1,l'))=true)→(∃ e:Int,e≠0∧r=(eX,e,()))∨(r=((s.1,s.2.1,l'),(0:Int),())∧bK (s.1,s.2.1,l')=true):=by
   intro he;rcases hr2 with rfl | ⟨rfl,htr⟩
   · exact .inl ⟨11,by decide,rfl⟩
   · exact .inr ⟨rfl,aJh hs hr hh hs' hrt hid (by omega) c3 c4 htr he⟩
  cases c6:(bW s.2.2 (aT t)).2 with
  | false=>
   refine⟨r,cU (aKP c1) (cU (aKP c2) (aB e50 (cU rfl (aB e51 (cU rfl (cU rfl qQ)))))),done ?_⟩;rintro ⟨u,hu,e,_⟩;have:=hR.mS.bW hu;rw [e] at this;rw [this] at c6;cases c6
  | true=>
   cases c7:((bW s.2.2 (aT t)).1.2.1==(1:Int)) with
   | false=>
     refine⟨r,cU (aKP c1) (cU (aKP c2) (aB e50 (cU rfl (aB e51 (cU rfl (bZ rfl (cU rfl qQ))))))),done ?_⟩;rintro ⟨u,hu,e,hk⟩;have:=hR.mS.bW hu;rw [e] at this;rw [this] at c7;rw [hk] at c7;cases c7
   | true=>
     cases c8:l'.all (nZ (s.1,s.2.1,l')) with
     | false=>
       rw [c8] at e52;exact⟨_,cU (aKP c1) (cU (aKP c2) (aB e50 (cU rfl (aB e51 (cU rfl (bZ rfl (bZ rfl (aB e52 (bZ rfl rfl))))))))),.inl ⟨15,by decide,rfl⟩⟩
     | true=>
       rw [c8] at e52;exact⟨r,cU (aKP c1) (cU (aKP c2) (aB e50 (cU rfl (aB e51 (cU rfl (bZ rfl (bZ rfl (aB e52 (cU rfl qQ))))))))),done (fun _=>c8)⟩
 cases hb:b with
 | true=>
  subst hb;obtain⟨u,hu,e⟩:=h3.1 rfl;have hil:=dF hu;have hh:=aY7 hR.mS hu e;obtain⟨r,k1,k2⟩:=cont _ hh (by simp;omega);have hF:nP s t=some r:=by
   unfold nP;refine aB aY8 (cU rfl (aB (XK t ht') (cU (by rw [hrt];rfl) (aB (aPj _ ht') (aB (a5f _ hs) (aB (yA s (aT t) hs.1 hs.2) (aB h1 (bZ rfl (bZ (bI hil) ?_)))))))));exact k1
  rcases k2 with⟨e,he,rfl⟩ | ⟨rfl,hr'⟩
  ·exact .inl ⟨e,he,hF⟩
  ·exact .inr ⟨_,hh,JJ hs.2 ht' hh (by simp;omega),hr',hF,fun hn=>absurd ⟨u,aPl hu,e⟩ hn⟩
 | false=>
  subst hb;have hn:¬Is s.2.2 (aT t):=by
   intro hn;have:=h3.2 (aFL hR.mS h2 hn);cases this
  have hh:=aY6 hR.mS h2 hn;have hil:=h2.1;have hll:(s.2.2.take i++[t]++s.2.2.drop i).length≤41:=by simp;omega
  obtain⟨r,k1,k2⟩:=cont _ hh hll;have hins:Y4 (i:Int) s.2.2 [t]=some (((),()),s.2.2.take i++[t]++s.2.2.drop i,()):=by
   unfold Y4 a44;rw [aKO (by omega:(0:Int)≤(i:Int)),aKO (by omega:(i:Int)≤(s.2.2.length:Int)),show Nat.beq [t].length 1=true from rfl,aPp (by omega:s.2.2.length≤1000000)];rfl
  have hF:nP s t=some r:=by
   unfold nP;refine aB aY8 (cU rfl (aB (XK t ht') (cU (by rw [hrt];rfl) (aB (aPj _ ht') (aB (a5f _ hs) (aB (yA s (aT t) hs.1 hs.2) (aB h1 (cU rfl (aB hins ?_)))))))));exact k1
  rcases k2 with⟨e,he,rfl⟩ | ⟨rfl,hr'⟩
  ·exact .inl ⟨e,he,hF⟩
  ·exact .inr ⟨_,hh,JJ hs.2 ht' hh (by omega),hr',hF,fun _=>⟨i,hil,rfl⟩⟩
end Go.DI.S
