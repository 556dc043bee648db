import Derived.Test.YtbjldjihpekhaaaGreatZh
import Derived.Test.YtbjldjihpekhaaaGreatLd
import Derived.Test.YtbjldjihpekhaaaGreatAk
import Derived.Test.YtbjldjihpekhaaaGreatAi
/- ChangeSmall, plain. No conditions. -/
set_option linter.unusedSimpArgs false
set_option linter.unusedVariables false
set_option maxRecDepth 100000
set_option maxHeartbeats 0
noncomputable section
namespace Go.DI.S
open Go.Proofs
def HX (x:Int):Prop:=-9223372036854775808≤x∧x≤9223372036854775807
theorem aD9 {x:Int}(h1:-4294967296000000≤x)(h2:x≤4294967296000000):HX x:=⟨by omega,by omega⟩
theorem aQY {x:Int}(h:0≤x):-4294967296000000≤x:=by omega
theorem a9e {x:Int}(h:x≤4294967296000):x≤4294967296000000:=by omega
theorem aEa {x lo hi:Int}(h1:-9223372036854775808≤lo)(h2:hi≤9223372036854775807){f:aS [.bool]→Option (aS [.bool])}:Ends (HX x) ((jG x lo hi).bind fun v=>bif !v.1 then some (false,()) else f v):=by
 intro b hb k;rw [aGS] at hb;cases hc:(decide (lo≤x)&&decide (x≤hi)) with
 | false=>rw [hc] at hb;cases hb;cases k
 | true=>
  rw [Bool.and_eq_true] at hc;have a:=of_decide_eq_true hc.1;have c:=of_decide_eq_true hc.2;exact⟨by omega,by omega⟩
theorem aQZ {x:Int}{X:Option (aS [.bool])}:Ends (HX x) (bif x != (0:Int) then some (false,()) else X):=by
 intro b hb k;by_cases h:x=0
 ·subst h;exact⟨by decide,by decide⟩
 ·rw [qA h] at hb;cases hb;cases k
theorem a1G {x lo hi:Int}(h1:-9223372036854775808≤lo)(h2:hi≤9223372036854775807){f:aS [.bool]→Option (aS [.bool])}{X:Option (aS [.bool])}:Ends (HX x) (bif x != (0:Int) then(jG x lo hi).bind (fun v=>bif !v.1 then some (false,()) else f v) else X):=by
 by_cases h:x=0
 ·subst h;exact fun b _ _=>⟨by decide,by decide⟩
 ·rw [qA h];exact aEa h1 h2
theorem aXG {p:fW}:Ends (HX p.1∧HX p.2) ((dW p (4294967296000000:Int)).bind fun v=>some (v.1,())):=by
 intro b hb k;have e:dW p 4294967296000000=(jG p.1 (-4294967296000000) 4294967296000000).bind fun v=>bif v.1 then(jG p.2 (-4294967296000000) 4294967296000000).bind fun u=>some ((u.1,()):aS [.bool]) else some (false,()):=by
  unfold dW;rw [show IntKind.i64.wrap ((0:Int)-4294967296000000)=-4294967296000000 from by kernel_rfl]
 rw [e,aGS,aGS] at hb;simp only [Option.bind_some] at hb;cases hc:(decide (-4294967296000000≤p.1)&&decide (p.1≤4294967296000000)) with
 | false=>rw [hc] at hb;cases hb;cases k
 | true=>
  rw [hc] at hb;simp only [cond_true,Option.bind_some] at hb;cases hd:(decide (-4294967296000000≤p.2)&&decide (p.2≤4294967296000000)) with
  | false=>rw [hd] at hb;cases hb;cases k
  | true=>
   rw [Bool.and_eq_true] at hc hd;have a:=of_decide_eq_true hc.1;have c:=of_decide_eq_true hc.2;have a':=of_decide_eq_true hd.1;have c':=of_decide_eq_true hd.2;exact⟨aD9 a c,aD9 a' c'⟩
theorem bEg {b:Body}:Ends (HX b.2.1.1) (l5 b):=by
 unfold l5
 repeat' first
  | exact mB
  | exact aEa (by decide) (by decide)
  | refine oQ ?_ ?_
  | refine oR fun _=>?_
theorem bEh {b:Body}:Ends (HX b.2.2.1) (l5 b):=by
 unfold l5
 repeat' first
  | exact mB
  | exact a1G (by decide) (by decide)
  | refine oQ ?_ ?_
  | refine oR fun _=>?_
theorem bEi {b:Body}:Ends (HX b.2.2.2.2.1∧HX b.2.2.2.2.2) (l5 b):=by
 unfold l5
 repeat' first
  | exact mB
  | exact aXG
  | refine oQ ?_ ?_
  | refine oR fun _=>?_
theorem bEj {b:Body}(h:b.1=1∨b.1=2):Ends (HX b.2.1.2) (l5 b):=by
 unfold l5;rcases h with h | h
 ·have h1:(b.1==(1:Int))=true:=by rw [h];rfl
  simp only [h1,cond_true]
  repeat' first
   | exact mB
   | exact aQZ
   | refine oQ ?_ ?_
   | refine oR fun _=>?_
 ·have h1:(b.1==(1:Int))=false:=by rw [h];rfl
  have h2:(b.1==(2:Int))=true:=by rw [h];rfl
  simp only [h1,h2,cond_true,cond_false]
  repeat' first
   | exact mB
   | exact aEa (by decide) (by decide)
   | refine oQ ?_ ?_
   | refine oR fun _=>?_
theorem aXH {x:Int}(h:Far x):HX x:=⟨by have:=h.1;omega,by have:=h.2;omega⟩
theorem aAz {x:Int}(h:KB x):HX x:=⟨by have:=h.1;omega,by have:=h.2;omega⟩
theorem lF {x:Int}(h:HX x):I.wf x:=by
 obtain⟨h1,h2⟩:=h;show(Lit.int .i64 x).wf=true;simp [Lit.wf,IntKind.min,IntKind.max,IntKind.signed,IntKind.bits];omega
theorem a1H {b:Body}(h:rb b=true):aM.wf b:=by
 have h88:=aPW b;rw [h] at h88;have hs:=aFV h88;obtain⟨f1,f2⟩:=a6v h;obtain⟨m1,m2⟩:=bEi true h88 rfl;refine⟨lF ?_,⟨lF (bEg true h88 rfl),lF (bEj hs true h88 rfl)⟩,lF (bEh true h88 rfl),⟨lF (aXH f1),lF (aXH f2)⟩,lF m1,lF m2⟩;rcases hs with k | k
 ·rw [k];exact⟨by decide,by decide⟩
 ·rw [k];exact⟨by decide,by decide⟩
theorem aXI {t:Thing}(h:RtP t):aA.wf t:=by
 have z:I.wf (0:Int):=lF ⟨by decide,by decide⟩;have zB:aM.wf noB:=⟨z,⟨z,z⟩,z,⟨z,z⟩,z,z⟩;have zJ:aP.wf noJ:=⟨z,z,z⟩;have zL:(Ty.list I).wf ([]:List Int):=⟨Nat.zero_le _,fun x hx=>by cases hx⟩;obtain⟨h0,h1 | h1 | h1⟩:=h
 ·obtain⟨k,a,b,c⟩:=h1;have b:t.2.2.2.2=[]:=b;refine⟨lF (aAz h0),by rw [k];exact lF ⟨by decide,by decide⟩,a1H c,by rw [a];exact zJ,by rw [b];exact zL⟩
 ·obtain⟨k,a,b,c,d,_,e,f⟩:=h1;have b:t.2.2.2.2=[]:=b;refine⟨lF (aAz h0),by rw [k];exact lF ⟨by decide,by decide⟩,by rw [a];exact zB,⟨lF (aAz c),lF (aAz d),lF (aD9 (aQY e) (a9e f))⟩,by rw [b];exact zL⟩
 ·obtain⟨k,a,b,c,d,e⟩:=h1;refine⟨lF (aAz h0),by rw [k];exact lF ⟨by decide,by decide⟩,by rw [a];exact zB,by rw [b];exact zJ,?_,fun x hx=>lF (aAz (A4 c x hx).2.1)⟩;show(ins t).length≤maxLen;exact Nat.le_trans e (by unfold maxLen;decide)
theorem aAA {s:aZ}(hr:bK s=true)(hs:Small s.2.2):Rdb s.2.2:=by
 have h:=bR hr;exact a9b h (fun t ht=>aXI (p9 h hs ht)) (fun t ht=>by have:=GU h hs ht;exact Nat.le_trans this (by decide))
theorem a1I (a b:List Int)(ha:a.length≤1000000000):∃ v:Bool,HL a b=some ((v,()):aS [.bool])∧(v=true→a=b):=by
 unfold HL;by_cases hl:a.length=b.length
 ·have hne:(((a.length:Nat):Int) != ((b.length:Nat):Int))=false:=KG (by rw [hl]);have:=bP (G:=fun x=>o6 x.1.1 x.1.2.1 x.1.2.2.1)
   (fun x=>∃ k:Nat,k≤a.length∧a.take k=b.take k∧x=((a,b,(k:Int),()),())) (fun x=>a.length-x.1.2.2.1.toNat)
   (fun y=>(y=.inl ((),())∧a=b)∨y=.inr ((false,()),())) ?_ fuel ((a,b,(0:Int),()),()) ⟨0,Nat.zero_le _,rfl,rfl⟩ (by
    show a.length-(0:Int).toNat<fuel;unfold fuel;omega)
  ·obtain⟨y,h,hy⟩:=this;rcases hy with⟨rfl,e⟩ | rfl
   ·exact⟨true,cU hne (aB h rfl),fun _=>e⟩
   ·exact⟨false,cU hne (aB h rfl),fun h=>by cases h⟩
  ·rintro x ⟨k,hk,ht,rfl⟩;show(∃ x',o6 a b (k:Int)=_∧_)∨∃ y,o6 a b (k:Int)=_∧_;unfold o6;by_cases h:k<a.length
   ·have h':k<b.length:=by omega
    have ga:=List.getElem?_eq_getElem h;have gb:=List.getElem?_eq_getElem h';simp only [dec_lt h,bI h,bI h',cond_true,bB ga,bB gb,aN h (by omega)];by_cases e:a[k]=b[k]
    ·refine .inl ⟨_,cU (by rw [e];simp) rfl,⟨k+1,h,?_,rfl⟩,?_⟩
     ·rw [List.take_succ_eq_append_getElem h,List.take_succ_eq_append_getElem h',ht,e]
     ·show a.length-((k+1:Nat):Int).toNat<a.length-(k:Int).toNat;omega
    ·exact .inr ⟨_,bZ (by simpa using e) rfl,.inr rfl⟩
   ·have hk':k=a.length:=by omega
    subst hk';simp only [bA,cond_false];refine .inr ⟨_,rfl,.inl ⟨rfl,?_⟩⟩;rw [List.take_length] at ht;rw [ht,hl,List.take_length]
 ·exact⟨false,bZ (qA (fun h=>hl (Int.ofNat_inj.1 h))) rfl,fun h=>by cases h⟩
theorem a1J (a b:Thing)(ha:a.2.2.2.2.length≤1000000000):∃ v:Bool,OO a b=some ((v,()):aS [.bool])∧(v=true→a=b):=by
 have no:∃ v:Bool,(some ((false,()):aS [.bool]))=some ((v,()):aS [.bool])∧(v=true→a=b):=⟨false,rfl,fun h=>by cases h⟩;obtain⟨v,hv,he⟩:=a1I a.2.2.2.2 b.2.2.2.2 ha;unfold OO;cases c1:(a.fst==b.fst) with
 | false=>exact no
 | true=>
 cases c2:(a.snd.fst==b.snd.fst) with
 | false=>exact no
 | true=>
 simp only [cond_true];generalize hB:(a.snd.snd.fst.fst==b.snd.snd.fst.fst&&_)=c3;cases c3 with
 | false=>exact no
 | true=>
 simp only [cond_true];generalize hJ:(a.snd.snd.snd.fst.fst==b.snd.snd.snd.fst.fst&&_)=c4;cases c4 with
 | false=>exact no
 | true=>
 simp only [cond_true];refine⟨v,by rw [hv];rfl,fun hvt=>?_⟩;simp only [Bool.and_eq_true,beq_iff_eq] at hB hJ;obtain⟨b1,⟨b2,b3,_⟩,b4,⟨b5,b6,_⟩,⟨b7,b8,_⟩,_⟩:=hB;obtain⟨j1,j2,j3,_⟩:=hJ;have e1:a.1=b.1:=beq_iff_eq.1 c1;have e2:a.2.1=b.2.1:=beq_iff_eq.1 c2;exact Prod.ext e1 (Prod.ext e2 (Prod.ext (Prod.ext b1 (Prod.ext (Prod.ext b2 b3) (Prod.ext b4 (Prod.ext (Prod.ext b5 b6) (Prod.ext b7 b8))))) (Prod.ext (Prod.ext j1 (Prod.ext j2 j3)) (he hvt))))
theorem aAB {s:aZ}(h:Rt s)(n:Int):(bW s.2.2 n).2=!(cK s.2.2 n==[]):=by
 unfold cK;cases hg:(bW s.2.2 n).2 with
 | false=>rfl
 | true=>
  obtain⟨t,ht,rfl⟩:=oD hg;rw [h.mS.bW ht,(h.low t ht).2.2];show true=!(j4 (qS t)==[]);rw [beq_false_of_ne (HT t)];rfl
theorem aAC {s:aZ}(h:Rt s){n:Int}(hg:(bW s.2.2 n).2=true):cK s.2.2 n=j4 (qS (bW s.2.2 n).1):=by
 obtain⟨t,ht,rfl⟩:=oD hg;unfold cK;rw [h.mS.bW ht,(h.low t ht).2.2];rfl
theorem aAD {s:aZ}(hs:Small s.2.2)(hrs:bK s=true):Lil s.2.2:=⟨hs,fun t ht=>Nat.le_trans (GU (bR hrs) hs ht) (by decide)⟩
section
variable {s r:aZ}(hs:Small s.2.2)(hrs:bK s=true)(hr:Small r.2.2)(hrr:bK r=true)
include hs hrs hr hrr
theorem a1K (e:Entry)(he:e.1=oF s.2.2 r.2.2 (kN s.2.2 r.2.2))(hl:e.1.length≤1000000) :
  qJ (((),(),(),e.1,(e.1.length:Int),(0:Int),()),(s,()),(r,()),(e,()),())=some (.inl (((),(),(),()),(s,()),(r,()),(e,()),())):=by
 have hS:=bR hrs;have hR:=bR hrr;have h:=gM (G:=fun x=>j6 x.1.2.2.2.1 x.1.2.2.2.2.1 x.1.2.2.2.2.2.1 x.2.1 x.2.2.1 x.2.2.2.1) (n:=e.1.length)
  (inv:=fun k=>(((),(),(),e.1,(e.1.length:Int),(k:Int),()),(s,()),(r,()),(e,()),())) (y:=.inl (((),(),(),()),(s,()),(r,()),(e,()),())) (fun k hk=>?_) ?_ e.1.length 0 fuel (by omega) (fuel_lt (by omega))
 ·exact h
 ·have ha:=List.getElem?_eq_getElem hk;have hm:e.1[k]∈oF s.2.2 r.2.2 (kN s.2.2 r.2.2):=he▸List.getElem_mem hk;generalize hd:e.1[k]=d at ha hm;obtain⟨n,_,hne,rfl⟩:=aOj.1 hm;show j6 e.1 (e.1.length:Int) (k:Int) (s,()) (r,()) (e,())=_;unfold j6;simp only [dec_lt hk,bI hk,cond_true,bB ha,aN hk (by omega)];have e1:=yA s n hs.1 hs.2;have e2:=yA r n hr.1 hr.2;have p1:=aAB hS n;have p2:=aAB hR n;refine aB e1 (aB e2 (cU ?_ (cU ?_ ?_)))
  ·show(!((bW s.2.2 n).2==!(cK s.2.2 n==[])))=false;rw [← p1];simp
  ·show(!((bW r.2.2 n).2==!(cK r.2.2 n==[])))=false;rw [← p2];simp
  ·cases g1:(bW s.2.2 n).2 with
   | false=>exact cU rfl rfl
   | true=>
    cases g2:(bW r.2.2 n).2 with
    | false=>exact bZ rfl (cU rfl rfl)
    | true=>
     obtain⟨t,ht,_⟩:=oD g1;have hlen:(bW s.2.2 n).1.2.2.2.2.length≤1000000000:=by
      have:=aH7 hs (fun t ht=>Nat.le_trans (GU hS hs ht) (by decide)) n;omega
     obtain⟨v,hv,hvt⟩:=a1J (bW s.2.2 n).1 (bW r.2.2 n).1 hlen;have hvf:v=false:=by
      cases v with
      | false=>rfl
      | true=>exact absurd (by rw [aAC hS g1,aAC hR g2,hvt rfl]) hne
     rw [hvf] at hv;exact bZ rfl (bZ rfl (aB hv (cU rfl rfl)))
 ·show j6 e.1 (e.1.length:Int) (e.1.length:Int) (s,()) (r,()) (e,())=_;unfold j6;simp only [bA,cond_false]
end
theorem a1L {s r:aZ}(hrs:bK s=true)(hrr:bK r=true)(hn:(∀ n,Is s.2.2 n→Is r.2.2 n)∨(∀ n,Is r.2.2 n→Is s.2.2 n)):(qN s r).1.length≤40:=by
 refine Nat.le_trans (aD8 _ _ _) ?_;have hnd:(kN s.2.2 r.2.2).Nodup:=aH8 (aXE _ _);have sub:∀ {l:List Thing},l.length≤40→(∀ n∈kN s.2.2 r.2.2,Is l n)→(kN s.2.2 r.2.2).length≤40:=fun {l} hl h=>by
  have:=AA (kN s.2.2 r.2.2) (l.map aT) hnd fun n hn=>by
   obtain⟨t,ht,e⟩:=h n hn;exact List.mem_map.2 ⟨t,ht,e⟩
  rw [List.length_map] at this;omega
 rcases hn with hn | hn
 ·refine sub (bR hrr).len fun n hm=>?_;rcases OV.1 hm with h | h
  ·exact hn n h
  ·exact h
 ·refine sub (bR hrs).len fun n hm=>?_;rcases OV.1 hm with h | h
  ·exact h
  ·exact hn n h
def aOk (g:fW)(nx:Int)(l:List Thing)(v:aS [aD,I,I]):Option (aS [.bool]):=
 bif v.2.2.1 != (0:Int) then some (true,()) else
 (G9 (g,nx,l) v.1).bind fun u=>bif !u.2.1 then(aFC (g,nx,l)).bind fun a=>(aFH v.1 a.1).bind fun b=>some (b.1,()) else
 (qJ (((),(),(),u.1.1,(u.1.1.length:Int),(0:Int),()),((g,nx,l),()),(v.1,()),(u.1,()),())).bind fun w=>Sum.elim (fun z=>bif z.2.2.2.1.1.2.2.2.2.1==z.2.1.1.2.1 then bif z.2.2.2.1.1.2.2.2.2.2==z.2.2.1.1.2.1 then some ((z.2.2.2.1.1.2.1==!(z.2.1.1.1.1==z.2.2.1.1.1.1&&(z.2.1.1.1.2==z.2.2.1.1.1.2&&true))),()) else some (false,()) else some (false,())) (fun z=>some (z.1.1,())) w
theorem aXJ {g:fW}{nx:Int}{l:List Thing}{m:Bool}{r:aZ}{n:Int}(hs:Small l)(hr:bK (g,nx,l)=true)(h:Good (g,nx,l) m r n):aOk g nx l (r,n,0,())=some ((true,()):aS [.bool]):=by
 have h1:=bR hr;have h2:=bR h.right;have d1:=aAA hr hs;have d2:=aAA h.right h.small;have hv:=bEe (g,nx,l) r (aAD (s:=(g,nx,l)) hs hr) (aAD h.small h.right) hr h.right;have h40:=a1L (s:=(g,nx,l)) hr h.right h.near;unfold aOk;refine cU rfl ?_;cases hE:y5 (qN (g,nx,l) r) with
 | false=>
  rw [hE,if_neg (by decide)] at hv;have hsame:(g,nx,l)=r:=by
   rcases a9d hr h.right d1 d2 with k | k | k
   ·rw [aK1.2 k] at hE;cases hE
   ·omega
   ·exact a1F h1 h2 d1 d2 k
  refine aB hv (bZ rfl (aB (bBv (g,nx,l)) ?_));rw [← hsame];exact aB (bGE (g,nx,l) hs) rfl
 | true=>
  rw [hE,if_pos rfl] at hv;have hq:=a1K (s:=(g,nx,l)) hs hr h.small h.right (qN (g,nx,l) r) rfl (by omega);refine aB hv (cU rfl (aB hq (bZ ?_ (bZ ?_ ?_))))
  ·exact beq_iff_eq.2 rfl
  ·exact beq_iff_eq.2 rfl
  ·show some (((!MV g r.1)==!(g.1==r.1.1&&(g.2==r.1.2&&true))),())=_;have:MV g r.1=(g.1==r.1.1&&(g.2==r.1.2&&true)):=rfl;rw [this];cases (g.1==r.1.1&&(g.2==r.1.2&&true)) <;> rfl
theorem changeSmall (g:fW)(nx:I.El)(l:(Ty.list aA).El)(o:Order)(h0:aU.wf g)(h1:I.wf nx)(h2:(Ty.list aA).wf l)(h3:kY.wf o):OP g nx l o=some ((true,()):aS [.bool]):=by
 unfold OP;refine aB (bGC l h2.1) ?_;cases hf:aTd l with
 | false=>exact bZ rfl (aB wS rfl)
 | true=>
 have hs:Small l:=aTe (aPl hf);have e20:=JI (g,nx,l) hs;refine cU rfl ?_;by_cases hi:((o.2.2.2.2.2.2.2.2.2.2.2.length:Int)>20)
 ·exact bZ (decide_eq_true hi) (aB wS rfl)
 have hi':o.2.2.2.2.2.2.2.2.2.2.2.length≤1000:=by
  have:¬((o.2.2.2.2.2.2.2.2.2.2.2.length:Int)>20):=hi;omega
 refine cU (decide_eq_false hi) ?_;obtain⟨r,n,e,hD,hc⟩:=bD2 (g,nx,l) o hs hi';have key:aOk g nx l (r,n,e,())=some ((true,()):aS [.bool]):=by
  rcases hc with⟨he,rfl,rfl⟩ | ⟨rfl,hr,hg⟩
  ·unfold aOk;exact bZ (qA he) rfl
  ·exact aXJ hs hr hg
 by_cases h8:o.2.2.2.2.2.2.2.2.2.2.1>8
 ·refine bZ (decide_eq_true h8) ?_;by_cases bEl:o.2.2.2.2.2.2.2.2.2.2.1≤200
  ·exact bZ (decide_eq_true bEl) (aB wS rfl)
  ·refine cU (decide_eq_false bEl) (aB e20 ?_);cases bK (g,nx,l) with
   | false=>exact bZ rfl (aB wS rfl)
   | true=>exact cU rfl (aB wS (cU rfl (aB hD key)))
 ·refine cU (decide_eq_false h8) (aB e20 ?_);cases bK (g,nx,l) with
  | false=>exact bZ rfl (aB wS rfl)
  | true=>exact cU rfl (aB wS (cU rfl (aB hD key)))
end Go.DI.S
end
