import Derived.Test.YtbjldjihpekhaaaGreatZh
import Derived.Test.YtbjldjihpekhaaaGreatLd
import Derived.Test.YtbjldjihpekhaaaGreatAk
import Derived.Test.YtbjldjihpekhaaaGreatAi
/- ChangeSmall, plain. No conditions. -/
set_option linter.unusedSimpArgs false
set_option linter.unusedVariables false
set_option maxRecDepth 100000
set_option maxHeartbeats 0
namespace Go.DI.S
open Go.Proofs
def HX (x:Int):Prop:=-9223372036854775808≤x∧x≤9223372036854775807
theorem aD9 {x:Int}(h1:-4294967296000000≤x)(h2:x≤4294967296000000):HX x:=⟨by omega,by omega⟩
theorem aQY {x:Int}(h:0≤x):-4294967296000000≤x:=by omega
theorem a9e {x:Int}(h:x≤4294967296000):x≤4294967296000000:=by omega
theorem aEa {x lo hi:Int}(h1:-9223372036854775808≤lo)(h2:hi≤9223372036854775807){f:aS [.bool]→Option (aS [.bool])}:Ends (HX x) ((jG x lo hi).bind fun v=>bif !v.1 then some (false,()) else f v):=by
 intro b hb k;rw [aGS] at hb;cases hc:(decide (lo≤x)&&decide (x≤hi)) with
 | false=>rw [hc] at hb;cases hb;cases k
 | true=>
  rw [aKS] at hc;have a:=aXU hc.1;have c:=aXU hc.2;exact⟨by omega,by omega⟩
theorem aQZ {x:Int}{X:Option (aS [.bool])}:Ends (HX x) (bif x != (0:Int) then some (false,()) else X):=by
 intro b hb k;by_cases h:x=0
 ·subst h;exact⟨by decide,by decide⟩
 ·rw [qA h] at hb;cases hb;cases k
theorem a1G {x lo hi:Int}(h1:-9223372036854775808≤lo)(h2:hi≤9223372036854775807){f:aS [.bool]→Option (aS [.bool])}{X:Option (aS [.bool])}:Ends (HX x) (bif x != (0:Int) then(jG x lo hi).bind (fun v=>bif !v.1 then some (false,()) else f v) else X):=by
 by_cases h:x=0
 ·subst h;exact fun b _ _=>⟨by decide,by decide⟩
 ·rw [qA h];exact aEa h1 h2
theorem aXG {p:fW}:Ends (HX p.1∧HX p.2) ((dW p (4294967296000000:Int)).bind fun v=>some (v.1,())):=by
 intro b hb k;have e:dW p 4294967296000000=(jG p.1 (-4294967296000000) 4294967296000000).bind fun v=>bif v.1 then(jG p.2 (-4294967296000000) 4294967296000000).bind fun u=>some ((u.1,()):aS [.bool]) else some (false,()):=by
  unfold dW;rw [show IntKind.i64.wrap ((0:Int)-4294967296000000)=-4294967296000000 from by kernel_rfl]
 rw [e,aGS,aGS] at hb;simp only [aEk] at hb;cases hc:(decide (-4294967296000000≤p.1)&&decide (p.1≤4294967296000000)) with
 | false=>rw [hc] at hb;cases hb;cases k
 | true=>
  rw [hc] at hb;simp only [cond_true,aEk] at hb;cases hd:(decide (-4294967296000000≤p.2)&&decide (p.2≤4294967296000000)) with
  | false=>rw [hd] at hb;cases hb;cases k
  | true=>
   rw [aKS] at hc hd;have a:=aXU hc.1;have c:=aXU hc.2;have a':=aXU hd.1;have c':=aXU hd.2;exact⟨aD9 a c,aD9 a' c'⟩
theorem bEg {b:Body}:Ends (HX b.2.1.1) (l5 b):=by
 unfold l5
 repeat' first
  | exact mB
  | exact aEa (by decide) (by decide)
  | refine oQ ?_ ?_
  | refine oR fun _=>?_
theorem bEh {b:Body}:Ends (HX b.2.2.1) (l5 b):=by
 unfold l5
 repeat' first
  | exact mB
  | exact a1G (by decide) (by decide)
  | refine oQ ?_ ?_
  | refine oR fun _=>?_
theorem bEi {b:Body}:Ends (HX b.2.2.2.2.1∧HX b.2.2.2.2.2) (l5 b):=by
 unfold l5
 repeat' first
  | exact mB
  | exact aXG
  | refine oQ ?_ ?_
  | refine oR fun _=>?_
theorem bEj {b:Body}(h:b.1=1∨b.1=2):Ends (HX b.2.1.2) (l5 b):=by
 unfold l5;rcases h with h | h
 ·have h1:(b.1==(1:Int))=true:=by rw [h];rfl
  simp only [h1,cond_true]
  repeat' first
   | exact mB
   | exact aQZ
   | refine oQ ?_ ?_
   | refine oR fun _=>?_
 ·have h1:(b.1==(1:Int))=false:=by rw [h];rfl
  have h2:(b.1==(2:Int))=true:=by rw [h];rfl
  simp only [h1,h2,cond_true,cond_false]
  repeat' first
   | exact mB
   | exact aEa (by decide) (by decide)
   | refine oQ ?_ ?_
   | refine oR fun _=>?_
theorem aXH {x:Int}(h:Far x):HX x:=⟨by have:=h.1;omega,by have:=h.2;omega⟩
theorem aAz {x:Int}(h:KB x):HX x:=⟨by have:=h.1;omega,by have:=h.2;omega⟩
theorem lF {x:Int}(h:HX x):I.wf x:=by
 obtain⟨h1,h2⟩:=h;show(Lit.int .i64 x).wf=true;simp [Lit.wf,IntKind.min,IntKind.max,IntKind.signed,IntKind.bits];omega
theorem a1H {b:Body}(h:rb b=true):aM.wf b:=by
 have h88:=aPW b;rw [h] at h88;have hs:=aFV h88;obtain⟨f1,f2⟩:=a6v h;obtain⟨m1,m2⟩:=bEi true h88 rfl;refine⟨lF ?_,⟨lF (bEg true h88 rfl),lF (bEj hs true h88 rfl)⟩,lF (bEh true h88 rfl),⟨lF (aXH f1),lF (aXH f2)⟩,lF m1,lF m2⟩;rcases hs with k | k
 ·rw [k];exact⟨by decide,by decide⟩
 ·rw [k];exact⟨by decide,by decide⟩
theorem aXI {t:Thing}(h:RtP t):aA.wf t:=by
 have z:I.wf (0:Int):=lF ⟨by decide,by decide⟩;have zB:aM.wf noB:=⟨z,⟨z,z⟩,z,⟨z,z⟩,z,z⟩;have zJ:aP.wf noJ:=⟨z,z,z⟩;have zL:(Ty.list I).wf ([]:List Int):=⟨aLj _,fun x hx=>by cases hx⟩;obtain⟨h0,h1 | h1 | h1⟩:=h
 ·obtain⟨k,a,b,c⟩:=h1;have b:t.2.2.2.2=[]:=b;refine⟨lF (aAz h0),by rw [k];exact lF ⟨by decide,by decide⟩,a1H c,by rw [a];exact zJ,by rw [b];exact zL⟩
 ·obtain⟨k,a,b,c,d,_,e,f⟩:=h1;have b:t.2.2.2.2=[]:=b;refine⟨lF (aAz h0),by rw [k];exact lF ⟨by decide,by decide⟩,by rw [a];exact zB,⟨lF (aAz c),lF (aAz d),lF (aD9 (aQY e) (a9e f))⟩,by rw [b];exact zL⟩
 ·obtain⟨k,a,b,c,d,e⟩:=h1;refine⟨lF (aAz h0),by rw [k];exact lF ⟨by decide,by decide⟩,by rw [a];exact zB,by rw [b];exact zJ,?_,fun x hx=>lF (aAz (A4 c x hx).2.1)⟩;show(ins t).length≤maxLen;exact aPB e (by unfold maxLen;decide)
theorem aAA {s:aZ}(hr:bK s=true)(hs:Small s.2.2):Rdb s.2.2:=by
 have h:=bR hr;exact a9b h (fun t ht=>aXI (p9 h hs ht)) (fun t ht=>by have:=GU h hs ht;exact aPB this (by decide))
theorem aAD {s:aZ}(hs:Small s.2.2)(hrs:bK s=true):Lil s.2.2:=⟨hs,fun t ht=>aPB (GU (bR hrs) hs ht) (by decide)⟩
section
variable {s r:aZ}(hs:Small s.2.2)(hrs:bK s=true)(hr:Small r.2.2)(hrr:bK r=true)
include hs hrs hr hrr
end
end Go.DI.S
