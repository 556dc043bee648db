import Derived.Test.YtbjldjihpekhaaaGreatDid
import Derived.ChangeStays
import Derived.IntWalk
import Derived.RowKit3
/- A reading of programs by functions on data, and that it is right. No conditions. -/
set_option linter.unusedSimpArgs false
set_option linter.unusedVariables false
set_option maxRecDepth 100000
set_option maxHeartbeats 0
namespace Go.DI
def Ty.wf:(t:Ty)→t.El→Prop
 | .unit,_=>True
 | .int k,n=>(Lit.int k n).wf=true
 | .bool,_=>True
 | .str,s=>s.length≤maxLen
 | .gU k,b=>(Lit.float k b).wf=true
 | .list t,l=>l.length≤maxLen∧∀ x∈l,t.wf x
 | .wrap a,x=>a.wf x
 | .pair a b,x=>a.wf x.1∧b.wf x.2
def RdF (P:Program)(rd:Ty→TypeId→Prop):Ty→Nat→List Field→Prop
 | τ,off,[f]=>f.offset=off∧P.cellsOf f.type=τ.sz∧rd τ f.type
 | .pair a b,off,f :: g :: r=>f.offset=off∧P.cellsOf f.type=a.sz∧rd a f.type∧RdF P rd b (off+a.sz) (g :: r)
 | _,_,_=>False
def Rd (P:Program):Nat→Ty→TypeId→Prop
 | 0,_,_=>False
 | n+1,τ,t=>match τ with
  | .int k=>P.underlying t=some (.int k)
  | .bool=>P.underlying t=some .bool
  | .str=>P.underlying t=some .string
  | .gU k=>P.underlying t=some (.float k)
  | .list zF=>∃ e,P.underlying t=some (.slice e)∧Rd P n zF e∧P.cellsOf e=zF.sz∧0<zF.sz
  | .pair a b=>∃ fs,P.underlying t=some (.struct fs)∧P.cellsOf t=(Ty.pair a b).sz∧RdF P (Rd P n) (.pair a b) 0 fs.toList
  | _=>False
theorem aIO {H:Type}{enc:TypeId×Value→H}{P:Program}{w:World}{base:Nat}{spare:Nat→Bool}{held:Bool}{fuel:Nat}{t:TypeId}{cs:List Value}{x:DataW H×List MemPlace}{k:FloatKind}(ht:P.underlying t=some (.float k))(h:DataW.trod enc P w base spare held fuel t cs=some x):∃ b,cs=[.float k b]∧(Lit.float k b).wf=true:=by
 cases fuel with
 | zero=>simp [DataW.trod] at h
 | succ n=>
  unfold DataW.trod at h;rw [ht] at h
  split at h <;> simp_all
section
variable {H:Type}{enc:TypeId×Value→H}{P:Program}{W:World}{held:Bool}{ρ:Nm}
theorem aRR {n:Nat}(ih:∀ (τ:Ty) (t:TypeId),Rd P n τ t→∀ (fuel:Nat) (cs:List Value) (y:DataW H×List MemPlace),DataW.trod enc P W 0 (fun _=>true) held fuel t cs=some y→∃ x:τ.El,τ.wf x∧aK W (fun b=>b<W.heap.size) ρ (τ.enc x).cells cs) :
  ∀ (fs:List Field) (τ:Ty) (off:Nat),RdF P (Rd P n) τ off fs→∀ (m:Nat) (cs:List Value),
   (∀ (i:Nat) (f:Field),fs[i]?=some f→∃ y,DataW.trod enc P W 0 (fun _=>true) held m f.type ((cs.drop f.offset).take (P.cellsOf f.type))=some y) →
   ∃ x:τ.El,τ.wf x∧aK W (fun b=>b<W.heap.size) ρ (τ.enc x).cells ((cs.drop off).take τ.sz)
 | [],τ,off,h,m,cs,hf=>by cases τ <;> simp [RdF] at h
 | [f],τ,off,h,m,cs,hf=>by
  have h:f.offset=off∧P.cellsOf f.type=τ.sz∧Rd P n τ f.type:=by cases τ <;> exact h
  obtain⟨ho,hc,hr⟩:=h;obtain⟨y,hy⟩:=hf 0 f rfl;rw [ho,hc] at hy;exact ih τ f.type hr m _ y hy
 | f :: g :: r,τ,off,h,m,cs,hf=>by
  cases τ with
  | pair a b=>
   obtain⟨ho,hc,hr,B6⟩:=h;obtain⟨y,hy⟩:=hf 0 f rfl;rw [ho,hc] at hy;obtain⟨x1,w1,v1⟩:=ih a f.type hr m _ y hy;obtain⟨x2,w2,v2⟩:=aRR ih (g :: r) b (off+a.sz) B6 m cs (fun i f hi=>hf (i+1) f hi);refine⟨(x1,x2),⟨w1,w2⟩,?_⟩;have:(cs.drop off).take (Ty.pair a b).sz=(cs.drop off).take a.sz++(cs.drop (off+a.sz)).take b.sz:=by
    show(cs.drop off).take (a.sz+b.sz)=_;rw [List.take_add,List.drop_drop]
   rw [this];exact v1.append v2
  | _=>simp [RdF] at h
theorem aRS:∀ (n:Nat) (τ:Ty) (t:TypeId),Rd P n τ t→∀ (fuel:Nat) (cs:List Value) (y:DataW H×List MemPlace),DataW.trod enc P W 0 (fun _=>true) held fuel t cs=some y→∃ x:τ.El,τ.wf x∧aK W (fun b=>b<W.heap.size) ρ (τ.enc x).cells cs
 | 0,τ,t,h,_,_,_,_=>by simp [Rd] at h
 | n+1,τ,t,h,fuel,cs,y,hy=>by
  cases τ with
  | int k=>
   obtain⟨m,rfl,rfl,hw⟩:=DataW.trod_int h hy;exact⟨m,hw,.cons (.int _ _) .nil⟩
  | bool=>
   obtain⟨b,rfl,rfl⟩:=DataW.trod_bool h hy;exact⟨b,trivial,.cons (.bool _) .nil⟩
  | str=>
   obtain⟨s,rfl,rfl,hs⟩:=DataW.trod_string h hy;exact⟨s.data.toList,by show s.data.toList.length≤maxLen;simpa using hs,.cons (.str _) .nil⟩
  | gU k=>
   obtain⟨b,rfl,hw⟩:=aIO h hy;exact⟨b,hw,.cons (.gU _ _) .nil⟩
  | unit=>simp [Rd] at h
  | wrap a=>simp [Rd] at h
  | list zF=>
   obtain⟨e,ht,he,hc,hp⟩:=h;rcases DataW.trod_slice ht hy with⟨rfl,rfl⟩ | ⟨a,len,cap,elems,rest,m,rfl,rfl,rfl,hb,hl,hm,hlen,hel,_,_⟩
   ·exact⟨[],⟨aLj _,fun x hx=>by simp at hx⟩,.cons (.nF (.lH _ _ _ _)) .nil⟩
   ·have each:∀ i,∃ (x:zF.El) (cs':List Value),i<len→zF.wf x∧W.cells? 0 (a.add (i*zF.sz)) zF.sz=some cs'∧aK W (fun b=>b<W.heap.size) ρ (zF.enc x).cells cs':=by
     intro i;by_cases hi:i<len
     ·have h1:=hel i hi;rw [hc] at h1;rw [aJS (by omega)] at h1;obtain⟨cs',hcs,hy'⟩:=aXE.1 h1;obtain⟨x,hw,hv⟩:=aRS n zF e he m cs' _ hy';exact⟨x,cs',fun _=>⟨hw,hcs,hv⟩⟩
     ·exact⟨zF.dflt,[],fun h=>absurd h hi⟩
    have hx:∃ f:Nat→zF.El,∃ g:Nat→List Value,∀ i,i<len→zF.wf (f i)∧W.cells? 0 (a.add (i*zF.sz)) zF.sz=some (g i)∧aK W (fun b=>b<W.heap.size) ρ (zF.enc (f i)).cells (g i):=
     ⟨fun i=>Classical.choose (each i),fun i=>Classical.choose (Classical.choose_spec (each i)),fun i hi=>Classical.choose_spec (Classical.choose_spec (each i)) hi⟩
    obtain⟨f,g,hfg⟩:=hx;have hll:((List.range len).map f).length=len:=by simp
    refine⟨(List.range len).map f,⟨by rw [hll];omega,fun x hx=>?_⟩,.cons (.nF ?_) .nil⟩
    ·obtain⟨i,hi,rfl⟩:=aQ5.1 hx;exact(hfg i (a9t.1 hi)).1
    ·rw [hll];have hat:∀ j,j<len→zF.at ((List.range len).map f) j=zF.enc (f j):=by
      intro j hj;unfold Ty.at;congr 1;rw [aQj,aQn,a1L hj];rfl
     by_cases h0:len=0
     ·subst h0;exact .lH _ _ _ _
     ·have hpos:0<len:=Nat.pos_of_ne_zero h0;have h1:=(World.cells?_some (hfg 0 hpos).2.1);have h2:=h1.2.2 0 hp;rw [aJS (by omega)] at h2;have a1Z:a.spot=none:=by
       have:=World.cell?_spot h2;simpa [Addr.add] using this
      obtain⟨b,off,spot⟩:=a;simp only at a1Z;subst a1Z;have hbl:b<W.heap.size:=by
       rw [Addr.add_mid,Addr.add_mid] at h2;unfold World.cell? at h2
       split at h2
       ·rename_i hh;exact(aZK.1 hh).1
       ·cases h2
      refine .ro (fun j o=>(g j).getD o undef) hbl hl (fun j _=>zF.at_len _ j) (fun j o c hj ho=>?_) (fun j o c hj ho=>?_)
      ·rw [hat j hj] at ho;obtain⟨_,k2,k3⟩:=hfg j hj;have k4:=World.cells?_some k2;have hol:o<zF.sz:=by rw [← zF.fK (f j)];exact(aK2.1 ho).1
       have k5:=k4.2.2 o hol;rw [Addr.add_mid,Addr.add_mid] at k5;rw [← Nat.add_assoc,k5,aJS (by omega),aQj,aJS (by omega)];rfl
      ·rw [hat j hj] at ho;obtain⟨_,k2,k3⟩:=hfg j hj;obtain⟨u,hu,hv⟩:=k3.get ho;rw [aQj,hu];exact hv
  | pair a b=>
   obtain⟨fs,ht,hc,hf⟩:=h;obtain⟨xs,m,rfl,rfl,hcl,hxl,hx⟩:=DataW.trod_struct ht hy;have h1:=aRR (fun τ t hr fuel cs y hy=>aRS n τ t hr fuel cs y hy) fs.toList (.pair a b) 0 hf m cs (fun i f hi=>by
    have hi':fs[i]?=some f:=by simpa using hi
    have:=hx i f hi';have hlt:i<xs.length:=by rw [hxl];exact(aZK.1 hi').1
    rw [aJS hlt] at this;exact⟨_,this⟩)
   rw [List.drop_zero,List.take_of_length_le (by rw [hcl,hc];exact aKQ _)] at h1;exact h1
end
def aLv (P:Program):Nat→List Field→Bool
 | _,[]=>true
 | off,f :: r=>f.offset==off&&aLv P (off+P.cellsOf f.type) r
def aRT (P:Program)(L:List TypeId):Bool:=L.all fun t=>match P.underlying t with
 | some (.pointer e)=>L.contains e
 | some (.slice e)=>L.contains e&&Nat.blt 0 (P.cellsOf e)
 | some (.array n e)=>L.contains e&&P.cellsOf t==n*P.cellsOf e
 | some (.struct fs)=>fs.toList.all (fun f=>L.contains f.type)&&P.cellsOf t==(fs.toList.map fun f=>P.cellsOf f.type).sum&&aLv P 0 fs.toList
 | some (.map _ e)=>L.contains e
 | _=>true
theorem aE7 {P:Program}:∀ {fs:List Field} {off:Nat},aLv P off fs=true→∀ (j:Nat) f,fs[j]?=some f→f.offset=off+((fs.take j).map fun f=>P.cellsOf f.type).sum
 | [],off,h,j,f,hf=>by simp at hf
 | g :: r,off,h,j,f,hf=>by
  simp only [aLv,aKS,beq_iff_eq] at h;cases j with
  | zero=>
   simp at hf;subst hf;simpa using h.1
  | succ j=>
   have:=aE7 h.2 j f (by simpa using hf);rw [this];simp [Nat.add_assoc]
theorem aRU {P:Program}{L:List TypeId}(h:aRT P L=true):Kids P (·∈L)∧∀ {t e:TypeId},t∈L→P.underlying t=some (.slice e)→0<P.cellsOf e:=by
 have h1:∀ t∈L,_:=aQ6.1 h;refine⟨⟨fun {t e} ht hu=>?_,fun {t e} ht hu=>?_,fun {t e n} ht hu=>?_,fun {t fs} ht hu=>?_,fun {t k e} ht hu=>?_⟩,fun {t e} ht hu=>?_⟩
 ·have:=h1 t ht;rw [hu] at this;simpa using this
 ·have:=h1 t ht;rw [hu] at this;simp only [aKS] at this;simpa using this.1
 ·have:=h1 t ht;rw [hu] at this;simp only [aKS,beq_iff_eq] at this;exact⟨by simpa using this.1,this.2⟩
 ·have:=h1 t ht;rw [hu] at this;simp only [aKS,beq_iff_eq,aQ6] at this;refine⟨fun f hf=>by simpa using this.1.1 f hf,this.1.2,fun j f hf=>?_⟩;have:=aE7 this.2 j f hf;rw [this,aZ3]
 ·have:=h1 t ht;rw [hu] at this;simpa using this
 ·have:=h1 t ht;rw [hu] at this;simp only [aKS] at this;exact a9q this.2
section
variable {H:Type}{enc:TypeId×Value→H}{P:Program}{W W':World}{ρ:Nm}
theorem aIP (hk:∀ b,b<W.heap.size→W'.heap[b]?=W.heap[b]?){p:MemPlace}(hp:p.block<W.heap.size):W.sameAt W' p:=by
 cases p with
 | cell b off=>exact World.cell?_of_block (w:=W) (hk b hp)
 | map b=>exact hk b hp
theorem YS {L:List TypeId}(hL:aRT P L=true)(hk:∀ b,b<W.heap.size→W'.heap[b]?=W.heap[b]?){sp:Nat→Bool}:∀ {ts:List TypeId} {vs:List Value} {ds:List (DataW H)} {p:List MemPlace},(∀ t∈ts,t∈L) →
  DataW.TrodAll enc P W 0 (fun _=>true) true ts vs ds p→(∀ q∈p,sp q.block=true)→DataW.TrodAll enc P W' 0 sp true ts vs ds p
 | [],[],[],p,_,h,_=>h
 | t :: ts,v :: vs,d :: ds,p,ht,h,hs=>by
  have hlt:=DataW.TrodAll.lt h;obtain⟨p1,p2,⟨fuel,h1⟩,h2,rfl⟩:=h;obtain⟨K,hsz⟩:=aRU hL;exact⟨p1,p2,⟨fuel,DataW.trod_stays K hsz (fun h=>by cases h) (ht t a1F) h1 (fun q hq=>aIP hk (hlt q (a1h _ hq))) (fun q hq=>hs q (a1h _ hq))⟩,
   YS hL hk (fun t ht'=>ht t (a0y _ ht')) h2 (fun q hq=>hs q (a9o _ hq)),rfl⟩
 | [],_ :: _,_,_,_,h,_=>h.elim
 | [],[],_ :: _,_,_,h,_=>h.elim
 | _ :: _,[],_,_,_,h,_=>h.elim
 | _ :: _,_ :: _,[],_,_,h,_=>h.elim
theorem FC {n:Nat}{τ:Ty}{t:TypeId}(hR:Rd P (n+1) τ t){r:Reach}{base:Nat}{v:Value}(hv:Value.okWide P W r base t v){d:DataW H}{p:List MemPlace}(h:DataW.Trod enc P W 0 (fun _=>true) true t v d p) :
  ∃ x:τ.El,τ.wf x∧aI W (fun b=>b<W.heap.size) ρ (τ.enc x) v:=by
 obtain⟨fuel,h⟩:=h;obtain⟨x,hw,hx⟩:=aRS (ρ:=ρ) (n+1) τ t hR fuel _ _ h;refine⟨x,hw,?_⟩;have one:∀ c,(τ.enc x).cells=[c]→τ.enc x=c→(∀ us,v≠.agg us)→aI W (fun b=>b<W.heap.size) ρ (τ.enc x) v:=by
  intro c hc he hn;rw [hc] at hx;have hcv:v.cells.toList=[v]:=by
   cases v <;> first | rfl | exact absurd rfl (hn _)
  rw [hcv] at hx;obtain⟨u,us,e,h1,_⟩:=hx.cons_inv;simp only [List.cons.injEq] at e;rw [e.1,he];exact h1
 cases τ with
 | int k=>
  have ht:P.underlying t=some (.int k):=hR;refine one _ rfl rfl fun us e=>?_;subst e;simp [Value.okWide,Cell.okWide,Cell.ok,ht] at hv
 | bool=>
  have ht:P.underlying t=some .bool:=hR;refine one _ rfl rfl fun us e=>?_;subst e;simp [Value.okWide,Cell.okWide,Cell.ok,ht] at hv
 | str=>
  have ht:P.underlying t=some .string:=hR;refine one _ rfl rfl fun us e=>?_;subst e;simp [Value.okWide,Cell.okWide,Cell.ok,ht] at hv
 | gU k=>
  have ht:P.underlying t=some (.float k):=hR;refine one _ rfl rfl fun us e=>?_;subst e;simp [Value.okWide,Cell.okWide,Cell.ok,ht] at hv
 | unit=>simp [Rd] at hR
 | wrap a=>simp [Rd] at hR
 | list zF=>
  obtain⟨e,ht,_⟩:=hR;refine one _ rfl rfl fun us e=>?_;subst e;simp [Value.okWide,Cell.okWide,Cell.ok,ht] at hv
 | pair a b=>
  obtain⟨fs,ht,_⟩:=hR;simp only [Value.okWide,ht] at hv;obtain⟨cs,rfl,_⟩:=hv;exact .xH hx
end
section
variable {X Y:Type}{G:X→Option (X⊕Y)}
theorem bT {x x':X}(h:G x=some (.inl x'))(m:Nat):aH G (m+1) x=aH G m x':=by
 simp only [aH,h,aEk,aQM]
theorem bM {x:X}{y:Y}(h:G x=some (.inr y))(m:Nat):aH G (m+1) x=some y:=by
 simp only [aH,h,aEk,Sum.elim_inr]
theorem gM {inv:Nat→X}{n:Nat}{y:Y}(hs:∀ i,i<n→G (inv i)=some (.inl (inv (i+1))))(he:G (inv n)=some (.inr y)):∀ (d i m:Nat),i+d=n→d<m→aH G m (inv i)=some y
 | 0,i,m,h,hm=>by
  obtain⟨m,rfl⟩:∃ k,m=k+1:=⟨m-1,by omega⟩;have:i=n:=by omega
  subst this;exact bM he m
 | d+1,i,m,h,hm=>by
  obtain⟨m,rfl⟩:∃ k,m=k+1:=⟨m-1,by omega⟩;rw [bT (hs i (by omega)) m];exact gM hs he d (i+1) m (by omega) (by omega)
end
section
variable {X Y α σ:Type}
def scan (step:σ→α→σ⊕Y)(fin:σ→Y):List α→σ→Y
 | [],s=>fin s
 | a :: l,s=>match step s a with
  | .inl s'=>scan step fin l s'
  | .inr y=>y
theorem I8 {G:X→Option (X⊕Y)}{l:List α}{mk:Nat→σ→X}{step:σ→α→σ⊕Y}{fin:σ→Y}(Inv:Nat→σ→Prop)
  (hs:∀ k a s,Inv k s→l[k]?=some a→G (mk k s)=some (match step s a with | .inl s'=>.inl (mk (k+1) s') | .inr y=>.inr y))
  (hI:∀ k a s s',Inv k s→l[k]?=some a→step s a=.inl s'→Inv (k+1) s')
  (he:∀ s,Inv l.length s→G (mk l.length s)=some (.inr (fin s))):∀ (d m k:Nat) (s:σ),k+d=l.length→d<m→Inv k s→aH G m (mk k s)=some (scan step fin (l.drop k) s)
 | 0,m,k,s,hk,hm,hi=>by
  obtain⟨m,rfl⟩:∃ j,m=j+1:=⟨m-1,by omega⟩;have:k=l.length:=by omega
  subst this;rw [bM (he s hi),List.drop_length];rfl
 | d+1,m,k,s,hk,hm,hi=>by
  obtain⟨m,rfl⟩:∃ j,m=j+1:=⟨m-1,by omega⟩;have hlt:k<l.length:=by omega
  have ha:l[k]?=some l[k]:=aJS hlt;rw [aZw hlt];have h1:=hs k _ s hi ha;cases hst:step s l[k] with
  | inl s'=>
   rw [hst] at h1;rw [bT h1];simp only [scan,hst];exact I8 Inv hs hI he d m (k+1) s' (by omega) (by omega) (hI k _ s s' hi ha hst)
  | inr y=>
   rw [hst] at h1;rw [bM h1];simp only [scan,hst]
theorem aE8 {G:X→Option (X⊕Y)}{l:List α}{mk:Nat→σ→X}{step:σ→α→σ⊕Y}{fin:σ→Y}{m:Nat}{s:σ}(hm:l.length<m)
  (hs:∀ k a s,l[k]?=some a→G (mk k s)=some (match step s a with | .inl s'=>.inl (mk (k+1) s') | .inr y=>.inr y))
  (he:∀ s,G (mk l.length s)=some (.inr (fin s))):aH G m (mk 0 s)=some (scan step fin l s):=by
 have:=I8 (G:=G) (l:=l) (mk:=mk) (step:=step) (fin:=fin) (fun _ _=>True) (fun k a s _ h=>hs k a s h) (fun _ _ _ _ _ _ _=>trivial) (fun s _=>he s) l.length m 0 s (by omega) hm trivial;simpa using this
theorem bP {G:X→Option (X⊕Y)}(Inv:X→Prop)(μ:X→Nat)(Q:Y→Prop)(hs:∀ x,Inv x→(∃ x',G x=some (.inl x')∧Inv x'∧μ x'<μ x)∨∃ y,G x=some (.inr y)∧Q y):∀ (m:Nat) (x:X),Inv x→μ x<m→∃ y,aH G m x=some y∧Q y
 | 0,x,hi,hm=>by omega
 | m+1,x,hi,hm=>by
  rcases hs x hi with⟨x',h1,h2,h3⟩ | ⟨y,h1,h2⟩
  ·rw [bT h1];exact bP Inv μ Q hs m x' h2 (by omega)
  ·exact⟨y,bM h1 m,h2⟩
end
theorem wrap64 {x:Int}(h1:-9223372036854775808≤x)(h2:x<9223372036854775808):IntKind.i64.wrap x=x:=by
 apply IntWalk.i64_in <;> omega
def Bl.encS (σ:Nat→Nat):(b:Bl)→b.El→cQ
 | .var bt cs,x=>.cells bt (nO σ cs x)
 | .row bt t,l=>.row bt t l
 | .cE kt vt,m=>.cE kt vt m
def jF (σ:Nat→Nat):(bs:List Bl)→lU bs→AH
 | [],_=>[]
 | b :: r,x=>some (b.encS σ x.1) :: jF σ r x.2
def L0 (σ:Nat→Nat):(rs:List (Nat×It))→jW rs→List AV→List AV
 | [],_,l=>l
 | p :: r,x,l=>L0 σ r x.2 (l.set p.1 (p.2.enc σ x.1))
theorem YT (σ:Nat→Nat):∀ (bs:List Bl) (x:lU bs),(jF σ bs x).length=bs.length
 | [],_=>rfl
 | b :: r,x=>by simp [jF,YT σ r]
theorem aE9 (σ:Nat→Nat):∀ (bs:List Bl) (x:lU bs) (k:Nat) (blk:cQ),(jF σ bs x)[k]?=some (some blk)→∃ (b:Bl) (y:b.El),blk=b.encS σ y∧(gH bs x)[k]?=some (some (b.enc y))∧∀ j∈b.names,j∈bs.flatMap Bl.names
 | [],x,k,blk,h=>by simp [jF] at h
 | b :: r,x,0,blk,h=>by
  simp only [jF,List.getElem?_cons_zero,aJp] at h;exact⟨b,x.1,h.symm,rfl,fun j hj=>by simp only [aXJ,aLA];exact .inl hj⟩
 | b :: r,x,k+1,blk,h=>by
  simp only [jF,a9B] at h;obtain⟨b',y,h1,h2,h3⟩:=aE9 σ r x.2 k blk h;exact⟨b',y,h1,h2,fun j hj=>by simp only [aXJ,aLA];exact .inr (h3 j hj)⟩
section
variable {w:World}{R:Nat→Prop}{ρ ρ':Nm}{σ:Nat→Nat}
theorem FD:∀ (cs:List It) (x:YK cs) {us:List Value},(∀ i∈vK cs,ρ' (σ i)=ρ i)→aK w R ρ (nO id cs x) us→aK w R ρ' (nO σ cs x) us
 | [],x,us,hn,hv=>by
  obtain rfl:=hv.bE;exact .nil
 | it :: r,x,us,hn,hv=>by
  have hl:(it.enc σ x.1).cells.length=(it.enc id x.1).cells.length:=by
   cases it with
   | comp cs=>exact DD (σ:=σ) (τ:=id) cs x.1
   | _=>rfl
  have h1:=hv.take (it.enc id x.1).cells.length;have h2:=hv.drop (it.enc id x.1).cells.length;simp only [nO,List.take_left',List.drop_left'] at h1 h2;have k1:=it.aLl (σ:=id) (τ:=σ) (ρ':=ρ') x.1 (fun i hi=>hn i (by simp only [vK,aXJ,aLA];exact .inl hi)) h1;have k2:=FD r x.2 (fun i hi=>hn i (by simp only [vK,aXJ,aLA];exact .inr hi)) h2;have:=k1.append k2
  rwa [a9u] at this
theorem Bl.aYz (b:Bl)(x:b.El){n:Nat}{N:BN}{R0:Nat→Prop}(hn:∀ i∈b.names,ρ' (σ i)=ρ i)(hb:dY w R ρ n N (b.enc x))(gG:Real R0 n N (b.enc x)):dY w R ρ' n N (b.encS σ x)∧Real R0 n N (b.encS σ x):=by
 cases b with
 | var bt cs=>
  obtain⟨arr,h1,h2,h3,h4⟩:=hb;have h5:=FD (ρ':=ρ') (σ:=σ) cs x hn h4;have hlen:(nO σ cs x).length=(nO id cs x).length:=by
   have h6:=h5.1;have h7:=h4.1;omega
  exact⟨⟨arr,h1,h2,by show(nO σ cs x).length≤_;omega,by
   show aK w R ρ' (nO σ cs x) (arr.toList.take (nO σ cs x).length);rw [hlen];exact h5⟩,.inl gG.cells⟩
 | row bt t=>exact⟨aLt hb,gG⟩
 | cE kt vt=>exact(Bl.aA8 (σ:=σ) (Bl.cE kt vt) (blk:=.cE kt vt x) (x:=x) (by simp [Bl.dec]) gG (fun i hi=>by simp [Bl.names] at hi) hb)
theorem FE:∀ (rs:List (Nat×It)) (x:jW rs) {l l':List AV} {us:List Value},(∀ i∈rs.flatMap (·.2.names),ρ' (σ i)=ρ i)→l'.length=l.length→(∀ (k:Nat) c' u,l'[k]?=some c'→us[k]?=some u→(∀ c,l[k]?=some c→aI w R ρ c u)→aI w R ρ' c' u) →
  aK w R ρ (aIz rs x l) us→aK w R ρ' (L0 σ rs x l') us
 | [],x,l,l',us,hn,hl,h,hv=>⟨by show us.length=l'.length;rw [hl];exact hv.1,fun k c' u hc hu=>h k c' u hc hu fun c hc=>hv.2 k c u hc hu⟩
 | p :: r,x,l,l',us,hn,hl,h,hv=>by
  refine FE r x.2 (l:=l.set p.1 (p.2.enc id x.1)) (l':=l'.set p.1 (p.2.enc σ x.1)) (fun i hi=>hn i (by simp only [aXJ,aLA];exact .inr hi)) (by simp [hl]) (fun k c' u hc' hu hk=>?_) hv;rw [aXL] at hc'
  split at hc'
  ·rename_i hpk;subst hpk
   split at hc'
   ·rename_i hlt;injection hc' with hc';subst hc'
    refine p.2.rename (σ:=id) (τ:=σ) x.1 (fun i hi=>hn i (by simp only [aXJ,aLA];exact .inl hi)) (hk _ ?_);rw [aXL,aJb rfl,aJb (by omega)]
   ·cases hc'
  ·rename_i hpk;refine h k c' u hc' hu fun c hc=>hk c ?_;rw [aXL,aJn hpk];exact hc
end
def jI:List Nat→AH→AH→AH
 | [],_,h=>h
 | k :: r,[],h=>jI r [] (h.set k none)
 | k :: r,b :: n,h=>jI r n (h.set k b)
theorem pM:∀ (sl:List Nat) (n h:AH),(jI sl n h).length=h.length
 | [],_,_=>rfl
 | k :: r,[],h=>by simp [jI,pM r]
 | k :: r,b :: n,h=>by simp [jI,pM r]
theorem xY:∀ (sl:List Nat) (n h:AH) (i:Nat),i∉sl→(jI sl n h)[i]?=h[i]?
 | [],_,_,_,_=>rfl
 | k :: r,[],h,i,hi=>by
  simp only [aQL,not_or] at hi;simp only [jI];rw [xY r _ _ i hi.2,aXL,aJn (fun e=>hi.1 e.symm)]
 | k :: r,b :: n,h,i,hi=>by
  simp only [aQL,not_or] at hi;simp only [jI];rw [xY r _ _ i hi.2,aXL,aJn (fun e=>hi.1 e.symm)]
theorem aBg:∀ (sl:List Nat) (n h:AH) (k i:Nat),DE sl=true→sl[k]?=some i→i<h.length→(jI sl n h)[i]?=some ((n[k]?).join)
 | [],_,_,k,i,_,hk,_=>by simp at hk
 | j :: r,n,h,k,i,hn,hk,hi=>by
  simp only [DE,aKS,a1K] at hn;have hj:j∉r:=by simpa using hn.1
  cases k with
  | zero=>
   simp only [List.getElem?_cons_zero,aJp] at hk;subst hk;cases n with
   | nil=>simp only [jI];rw [xY r _ _ j hj,aXL,aJb rfl,aJb hi];rfl
   | cons b n=>simp only [jI];rw [xY r _ _ j hj,aXL,aJb rfl,aJb hi];rfl
  | succ k=>
   simp only [a9B] at hk;cases n with
   | nil=>simp only [jI];rw [aBg r [] _ k i hn.2 hk (by simpa using hi)];simp
   | cons b n=>simp only [jI];rw [aBg r n _ k i hn.2 hk (by simpa using hi)];simp
structure DF where
 /-- So many of the blocks stay where they are. -/
 dB:Nat
 steps:List qO
 cX:aF
 out:aF
 F:cX.El→Option out.El
def DF.Ok (P:Program)(g:FuncId)(e:DF):Prop:=∀ x y,e.F x=some y →
 ∀ (R:Nat→Prop) (ρ:Nm) (w:World) (vs:Array Value),Rel R ρ (e.cX.enc x).h w→aK w R ρ (e.cX.enc x).r vs.toList →
  Calls P g vs w fun q w'=>∃ R' ρ' u,q=.returned u∧aI w' R' ρ' (eE (e.out.enc y).r) u∧Rel R' ρ' (e.out.enc y).h w'∧eF e.dB R ρ (e.cX.enc x).h w R' ρ' (e.out.enc y).h w'
def behind (dB:Nat)(sl:List Nat)(H:Nat)(k:Nat):Nat:=if Nat.blt k dB then sl.getD k 0 else H+(k-dB)
def DF.call (e:DF){β:Type}(h:AH)(args:List AV)(K:AV→AH→Option β):Option β:=
 DB (jP e.steps ⟨args,h⟩) fun s=>
 match e.cX.dec 0 s with
 | some x=>if Nat.ble e.dB e.cX.dS.length&&(Nat.ble e.dB e.out.dS.length&&e.out.names.all (fun i=>decide (i<e.out.dS.length))) then
   (e.F x).bind fun y=>K (eE (L0 (behind e.dB (e.cX.sig s) s.h.length) e.out.fH y.1 (List.replicate e.out.n .any)))
    (jI (e.cX.sig s) ((jF (behind e.dB (e.cX.sig s) s.h.length) e.out.dS y.2).take e.dB) s.h++(jF (behind e.dB (e.cX.sig s) s.h.length) e.out.dS y.2).drop e.dB)
  else none
 | none=>none
theorem aFa {w:World}{R:Nat→Prop}{ρ ρ':Nm}{l l':List AV}{u:Value}(hl:l'.length=l.length)(h:∀ us,aK w R ρ l us→aK w R ρ' l' us)(hv:aI w R ρ (eE l) u):aI w R ρ' (eE l') u:=by
 rcases aK.E2 hv with⟨c,rfl,h1⟩ | ⟨us,rfl,fE,he,hne⟩
 ·obtain⟨c',rfl⟩:∃ c',l'=[c']:=by
   cases l' with
   | nil=>simp at hl
   | cons c' r=>cases r with
    | nil=>exact⟨c',rfl⟩
    | cons _ _=>simp at hl
  obtain⟨u',nG,he,h3,_⟩:=aK.cons_inv (h [u] (.cons h1 .nil));simp only [List.cons.injEq] at he;obtain⟨rfl,rfl⟩:=he;exact h3
 ·have h2:=h _ fE;have:eE l'=.xF l':=by
   unfold eE
   split
   ·rename_i c;exfalso;cases l with
    | nil=>simp at hl
    | cons d r=>cases r with
     | nil=>exact hne d rfl
     | cons _ _=>simp at hl
   ·rfl
  rw [this];exact .mU h2
theorem aFb:∀ (rs:List (Nat×It)) (x:jW rs) (l:List AV),(aIz rs x l).length=l.length
 | [],_,_=>rfl
 | p :: r,x,l=>by simp [aIz,aFb r]
theorem YU (σ:Nat→Nat):∀ (rs:List (Nat×It)) (x:jW rs) (l:List AV),(L0 σ rs x l).length=l.length
 | [],_,_=>rfl
 | p :: r,x,l=>by simp [L0,YU σ r]
theorem xZ {P:Program}{g:FuncId}{dB:Nat}{steps:List qO}{cX out:aF}{End:Ending→Value→Prop}{x:cX.El}{y:out.El}
 (he:∀ (R:Nat→Prop) (ρ:Nm) (w:World) (vs:Array Value),Rel R ρ (cX.enc x).h w→aK w R ρ (cX.enc x).r vs.toList →
  Calls P g vs w fun q w'=>∃ R' ρ' u,End q u∧aI w' R' ρ' (eE (out.enc y).r) u∧Rel R' ρ' (out.enc y).h w'∧eF dB R ρ (cX.enc x).h w R' ρ' (out.enc y).h w')
 {h:AH} {args:List AV} {s:AS} (hs:jP steps ⟨args,h⟩=s) (hx:cX.dec 0 s=some x) (hp1:dB≤cX.dS.length) (hp2:dB≤out.dS.length) (hnm:out.names.all (fun i=>decide (i<out.dS.length))=true) :
 ∀ (R:Nat→Prop) (ρ:Nm) (w:World) (vs:Array Value),Rel R ρ h w→aK w R ρ args vs.toList →
  Calls P g vs w fun q w'=>∃ R' ρ' u,End q u∧aI w' R' ρ' (eE (L0 (behind dB (cX.sig s) s.h.length) out.fH y.1 (List.replicate out.n .any))) u ∧
   Rel R' ρ' (jI (cX.sig s) ((jF (behind dB (cX.sig s) s.h.length) out.dS y.2).take dB) s.h++(jF (behind dB (cX.sig s) s.h.length) out.dS y.2).drop dB) w' ∧
   fB R ρ h w R' ρ' (jI (cX.sig s) ((jF (behind dB (cX.sig s) s.h.length) out.dS y.2).take dB) s.h++(jF (behind dB (cX.sig s) s.h.length) out.dS y.2).drop dB) w':=by
  intro R ρ w vs hr hvs;obtain⟨R1,eN,r1,a1,f1⟩:=pI steps ⟨args,h⟩ R ρ { tmps:=vs,defers:=[] } w hr hvs;rw [hs] at r1 a1 f1;obtain⟨c1,c2,_,c4,hX⟩:=cX.okX 0 s x hx;obtain⟨y7,n2,r2,a2,f2⟩:=hX R1 eN _ w r1 a1;refine(he R1 y7 w vs r2 a2).mono ?_;rintro q w' ⟨R',ρ',u,hend,hu,r3,f3⟩;generalize MZ:cX.sig s=sl at *
  generalize hH:s.h.length=H at *
  generalize hh2:(cX.enc x).h=h2 at *
  have hh3:(out.enc y).h=gH out.dS y.2:=rfl;rw [hh3] at r3 f3
  -- a passed block's place
  have aLs:∀ k,k<sl.length→sl[k]?=some (sl.getD k 0):=fun k hk=>by
   rw [aQj,aJS hk];rfl
  have bFq:∀ k,k<sl.length→sl.getD k 0<H:=fun k hk=>by
   obtain⟨blk,hb⟩:=c4 k (by omega);rw [← hH];exact(aK2.1 hb).1
  have hmem:∀ i,i∈sl→∃ k,k<sl.length∧sl.getD k 0=i:=fun i hi=>by
   obtain⟨k,hk,rfl⟩:=List.mem_iff_getElem.1 hi;exact⟨k,hk,by rw [aQj,aJS hk];rfl⟩
  let ρf:Nm:=fun i=>if i<H then eN i else ρ' (dB+(i-H));have hf1:∀ i,i<H→ρf i=eN i:=fun i hi=>aJb hi;have hf2:∀ i,H≤i→ρf i=ρ' (dB+(i-H)):=fun i hi=>aJn (by omega);have hb1:∀ k,k<dB→behind dB sl H k=sl.getD k 0:=fun k hk=>by
   unfold behind;rw [aJb];rw [Nat.blt_eq];exact hk
  have hb2:∀ k,dB≤k→behind dB sl H k=H+(k-dB):=fun k hk=>by
   unfold behind;rw [aJn];rw [Nat.blt_eq];omega
  have bFr:∀ k,k<dB→eN (sl.getD k 0)=ρ' k:=fun k hk=>by
   obtain⟨blk,hb⟩:=c4 k (by omega);obtain⟨b,N,h1,_,_⟩:=r1.live _ _ hb;have h2:y7 k=some (b,N):=(n2 k (by omega)).trans h1;rw [h1,f3.pins k _ hk h2]
  have aFc:∀ k,k<out.dS.length→ρf (behind dB sl H k)=ρ' k:=fun k hk=>by
   by_cases hkp:k<dB
   ·rw [hb1 k hkp,hf1 _ (bFq k (by omega)),bFr k hkp]
   ·rw [hb2 k (by omega),hf2 _ (by omega)];congr 1;omega
  have aRV:∀ i∈out.names,i<out.dS.length:=fun i hi=>by
   simpa using aQ6.1 hnm i hi
  -- what is live of what was passed
  have hlv2:∀ b,Lv y7 h2 b→Lv eN s.h b:=by
   rintro b hl;rcases f2.cW b hl with h | h
   ·exact h
   ·exfalso;have:=r2.iS hl;omega
  have hlv3:∀ b,Lv y7 h2 b→∃ k N,k<sl.length∧eN (sl.getD k 0)=some (b,N)∧N.gh=false:=by
   rintro b ⟨k,blk,N,hk,hn,hg⟩;have hk2:k<cX.dS.length:=by
    have h4:=(aK2.1 hk).1;rw [← hh2] at h4;have:(cX.enc x).h=gH cX.dS x.2:=rfl;rw [this,sF] at h4;exact h4
   exact⟨k,N,by omega,by rw [← n2 k hk2];exact hn,hg⟩
  have hkeep:∀ b,b<w.heap.size→¬Lv y7 h2 b→w'.heap[b]?=w.heap[b]?:=f3.keeps;have hRk:∀ k,R1 k→w'.heap[k]?=w.heap[k]?:=fun k hk=>hkeep k (r1.ro k hk) fun hl=>r1.qU hk (hlv2 k hl)
  -- an old block that was not passed
  have hold:∀ (i:Nat) (blk:cQ),i∉sl→s.h[i]?=some (some blk)→∀ b N,eN i=some (b,N)→N.gh=false→¬Lv y7 h2 b:=by
   intro i blk hi hb b N hn hg hl;obtain⟨k,N',hk,hn',hg'⟩:=hlv3 b hl;obtain⟨dN,hb'⟩:=c4 k (by omega);have:=r1.inj i _ _ _ b N N' hb hb' hn hn' hg hg';exact hi (by rw [this];exact aPl (aLs k hk))
  generalize hnew:jF (behind dB sl H) out.dS y.2=new;have hnl:new.length=out.dS.length:=by rw [← hnew,YT]
  have zM:∀ (k:Nat) (blk:cQ),new[k]?=some (some blk)→∃ (b:Bl) (y':b.El),blk=b.encS (behind dB sl H) y'∧(gH out.dS y.2)[k]?=some (some (b.enc y'))∧∀ j∈b.names,ρf (behind dB sl H j)=ρ' j:=by
   intro k blk hk;rw [← hnew] at hk;obtain⟨b,y',h1,h2,h3⟩:=aE9 _ _ _ _ _ hk;exact⟨b,y',h1,h2,fun j hj=>aFc j (aRV j (by simp only [aF.names,aLA];exact .inr (h3 j hj)))⟩
  -- which block stands where
  have hhf:∀ (i:Nat) (blk:cQ),(jI sl (new.take dB) s.h++new.drop dB)[i]?=some (some blk)→(i∉sl∧i<H∧s.h[i]?=some (some blk))∨∃ k,k<out.dS.length∧i=behind dB sl H k∧new[k]?=some (some blk):=by
   intro i blk hi;by_cases hiH:i<H
   ·rw [aZ8 (by rw [pM,hH];exact hiH)] at hi;by_cases him:i∈sl
    ·obtain⟨k,hk,hki⟩:=hmem i him;rw [aBg sl _ _ k i c2 (by rw [aLs k hk,hki]) (by rw [hH];exact hiH)] at hi;simp only [aJp] at hi;have hkp:k<dB:=by
      by_cases hkp:k<dB
      ·exact hkp
      ·rw [List.getElem?_take_eq_none (by omega)] at hi;cases hi
     rw [aXO hkp] at hi;refine .inr ⟨k,by omega,by rw [hb1 k hkp,hki],?_⟩;cases hn:new[k]? with
     | none=>rw [hn] at hi;cases hi
     | some c=>rw [hn] at hi;cases c with
      | none=>cases hi
      | some c=>simp at hi;rw [hi]
    ·rw [xY sl _ _ i him] at hi;exact .inl ⟨him,hiH,hi⟩
   ·rw [a1N (by rw [pM,hH];omega),pM,hH,a1f] at hi;have:=(aK2.1 hi).1;exact .inr ⟨dB+(i-H),by omega,by rw [hb2 _ (by omega)];omega,hi⟩
  have hlf:∀ (i:Nat) (blk:cQ) (b:Nat) (N:BN),(jI sl (new.take dB) s.h++new.drop dB)[i]?=some (some blk)→ρf i=some (b,N)→N.gh=false→Lv eN s.h b∨w.heap.size≤b:=by
   intro i blk b N hi hn hg;rcases hhf i blk hi with⟨h1,h2,h3⟩ | ⟨k,h1,rfl,h3⟩
   ·rw [hf1 i h2] at hn;exact .inl ⟨i,blk,N,h3,hn,hg⟩
   ·obtain⟨b',y',_,h5,_⟩:=zM k blk h3;rw [aFc k h1] at hn;rcases f3.cW b ⟨k,_,N,h5,hn,hg⟩ with h | h
    ·exact .inl (hlv2 b h)
    ·exact .inr h
  have rf:Rel R' ρf (jI sl (new.take dB) s.h++new.drop dB) w':=by
   refine⟨fun i blk hi=>?_,fun i j bi bj b Ni Nj hi hj hni rI W6 LL=>?_,fun i hi=>?_,r3.ro⟩
   ·rcases hhf i blk hi with⟨h1,h2,h3⟩ | ⟨k,h1,rfl,h3⟩
    ·obtain⟨b,N,k1,k2,k3⟩:=r1.live i blk h3;refine⟨b,N,by rw [hf1 i h2];exact k1,k2.mono k3 (fun hg=>hkeep b (k2.lt hg) (hold i blk h1 h3 b N k1 hg)) hRk f3.mV (fun j bn hj=>?_),?_⟩
     ·rw [hf1 j]
      ·exact hj
      ·rcases Nat.lt_or_ge j H with h | h
       ·exact h
       ·rw [r1.dom j (by omega)] at hj;cases hj
     ·rcases k3 with⟨h4,h5⟩ | h4
      ·refine .inl ⟨h4,fun hR=>?_⟩;rcases f3.cZ b hR with h6 | h6 | h6
       ·exact h5 h6
       ·exact hold i blk h1 h3 b N k1 h4 h6
       ·have:=k2.lt h4;omega
      ·exact .inr h4
    ·obtain⟨bb,y',rfl,h5,h6⟩:=zM k blk h3;obtain⟨b,N,k1,k2,k3⟩:=r3.live k _ h5;obtain⟨k4,k5⟩:=bb.aYz y' h6 k2 k3;exact⟨b,N,by rw [aFc k h1];exact k1,k4,k5⟩
   ·rcases hhf i bi hi with⟨h1,h2,h3⟩ | ⟨k,h1,rfl,h3⟩ <;> rcases hhf j bj hj with⟨h4,h5,h6⟩ | ⟨m,h4,rfl,h6⟩
    ·rw [hf1 i h2] at hni;rw [hf1 j h5] at rI;exact r1.inj i j bi bj b Ni Nj h3 h6 hni rI W6 LL
    ·exfalso;rw [hf1 i h2] at hni;obtain⟨_,y',_,k5,_⟩:=zM m bj h6;rw [aFc m h4] at rI;rcases f3.cW b ⟨m,_,Nj,k5,rI,LL⟩ with h | h
     ·exact hold i bi h1 h3 b Ni hni W6 h
     ·have:=r1.iS ⟨i,bi,Ni,h3,hni,W6⟩;omega
    ·exfalso;rw [hf1 j h5] at rI;obtain⟨_,y',_,k5,_⟩:=zM k bi h3;rw [aFc k h1] at hni;rcases f3.cW b ⟨k,_,Ni,k5,hni,W6⟩ with h | h
     ·exact hold j bj h4 h6 b Nj rI LL h
     ·have:=r1.iS ⟨j,bj,Nj,h6,rI,LL⟩;omega
    ·obtain⟨_,y1,_,k5,_⟩:=zM k bi h3;obtain⟨_,y2,_,k6,_⟩:=zM m bj h6;rw [aFc k h1] at hni;rw [aFc m h4] at rI;rw [r3.inj k m _ _ b Ni Nj k5 k6 hni rI W6 LL]
   ·have hi:H+(new.length-dB)≤i:=by
     simpa [pM,hH] using hi
    rw [hf2 i (by omega)];exact r3.dom _ (by rw [sF];omega)
  have ff:fB R1 eN s.h w R' ρf (jI sl (new.take dB) s.h++new.drop dB) w':=by
   refine⟨f3.os,f3.tape,f3.output,f3.size,fun i bn hi=>?_,f3.mV,fun b hb hl=>hkeep b hb fun h=>hl (hlv2 b h),?_,fun b hb=>?_,by simp [pM],fun i hi hn=>?_,f3.kQ⟩
   ·rw [hf1 i]
    ·exact hi
    ·rcases Nat.lt_or_ge i H with h | h
     ·exact h
     ·rw [r1.dom i (by omega)] at hi;cases hi
   ·rintro b ⟨i,blk,N,hi,hn,hg⟩;exact hlf i blk b N hi hn hg
   ·rcases f3.cZ b hb with h | h | h
    ·exact .inl h
    ·exact .inr (.inl (hlv2 b h))
    ·exact .inr (.inr h)
   ·rw [hf1 i (by omega)];exact hn
  refine⟨R',ρf,u,hend,?_,rf,f1.trans ff⟩;refine aFa (l:=(out.enc y).r) (by rw [YU];show _=(aIz _ _ _).length;rw [aFb]) (fun us fE=>?_) hu;refine FE (l:=List.replicate out.n .any) (l':=List.replicate out.n .any) out.fH y.1 (fun i hi=>aFc i (aRV i (by simp only [aF.names,aLA];exact .inl hi))) rfl (fun k c' u hc' hu _=>?_) fE;rw [List.getElem?_replicate] at hc'
  split at hc'
  ·injection hc' with hc';subst hc';exact .any _
  ·cases hc'
theorem DF.aYA {P:Program}{g:FuncId}{e:DF}(he:e.Ok P g){β:Type}{h:AH}{args:List AV}{K:AV→AH→Option β}{z:β}(hc:e.call h args K=some z):∃ v h',K v h'=some z∧vF P g args h v h':=by
 unfold DF.call at hc;rw [sD] at hc
 split at hc
 ·rename_i x hx
  split at hc
  ·rename_i L1;simp only [aKS] at L1;obtain⟨hp1,hp2,hnm⟩:=L1;have hp1:=a9q hp1;have hp2:=a9q hp2;obtain⟨y,hy,hK⟩:=aXE.1 hc;exact⟨_,_,hK,xZ (End:=fun q u=>q=.returned u) (fun R ρ w vs hr hvs=>he x y hy R ρ w vs hr hvs) rfl hx hp1 hp2 hnm⟩
  ·cases hc
 ·cases hc
section
variable {C:dI}{T:Tb}
def aIQ (C:dI)(out:aF)(steps:List qO)(res:List ResultVar)(x:AX)(s:AS):Option out.El:=match x with
 | .ret | .normal=>match BS C s res with
  | some l=>out.dec C.dB (jP steps ⟨l,s.h⟩)
  | none=>none
 | _=>none
def kE (C:dI)(T:Tb)(cX out:aF)(steps:List qO)(dr:H7 out.El)(lp:dK out.El)(fn:Func)(c:Code)(x:cX.El):Option out.El:=
 aV C T dr lp c ⟨(cX.enc x).r++List.replicate (fn.ntmps-(cX.enc x).r.length) .undef,(cX.enc x).h⟩ (aIQ C out steps fn.results.toList)
theorem P9 {cX out:aF}{cN:List qO}{f:FuncId}{fn:Func}{c:Code}(hfn:C.P.funcs[f]?=some fn)(hb:fn.body=some c){x:cX.El}{y:out.El}{ex:AX}{s':AS}(hK:aIQ C out cN fn.results.toList ex s'=some y)
  (hca:CA C c ⟨(cX.enc x).r++List.replicate (fn.ntmps-(cX.enc x).r.length) .undef,(cX.enc x).h⟩ ex s') {R:Nat→Prop} {ρ:Nm} {w:World} {vs:Array Value} (hr:Rel R ρ (cX.enc x).h w) (hvs:aK w R ρ (cX.enc x).r vs.toList) :
  Calls C.P f vs w fun q w'=>∃ R' ρ' u,q=.returned u∧aI w' R' ρ' (eE (out.enc y).r) u∧Rel R' ρ' (out.enc y).h w'∧eF C.dB R ρ (cX.enc x).h w R' ρ' (out.enc y).h w':=by
 have key:(ex=.ret∨ex=.normal)∧∃ l,BS C s' fn.results.toList=some l∧out.dec C.dB (jP cN ⟨l,s'.h⟩)=some y:=by
  unfold aIQ at hK
  split at hK
  ·split at hK
   ·rename_i l hl;exact⟨.inl rfl,l,hl,hK⟩
   ·cases hK
  ·split at hK
   ·rename_i l hl;exact⟨.inr rfl,l,hl,hK⟩
   ·cases hK
  ·cases hK
 obtain⟨hx,l,hl,hd⟩:=key;have hsz:vs.size=(cX.enc x).r.length:=by have:=hvs.1;simpa using this
 have ha:b9 w R ρ ((cX.enc x).r++List.replicate (fn.ntmps-(cX.enc x).r.length) .undef) { tmps:=vs++Array.replicate (fn.ntmps-vs.size) undef,defers:=[] }:=by
  unfold b9;simp only [Array.toList_append,Array.toList_replicate,hsz];exact hvs.append (aK.replicate .undef _)
 refine calls_of_wp hfn hb ?_;refine wp_mono (hca R ρ _ w hr ha rfl) ?_;rintro e a' w' ⟨P7,R',ρ',hr',ha',f',hx'⟩;obtain⟨us,h1,h2⟩:=EZ (C:=C) hr' ha' hl;obtain⟨R2,y7,r2,a2,f2⟩:=((pI cN ⟨l,s'.h⟩).weak.trans (out.ok C.dB _ y hd)) R' ρ' { tmps:=us.toArray,defers:=[] } w' hr' (by simpa [b9] using h2);have h3:aK w' R2 y7 (out.enc y).r us:=by simpa [b9] using a2
 have hres:∃ v,(results fn a'.tmps).run C.P w'=.ok v w'∧aI w' R2 y7 (eE (out.enc y).r) v:=by
  have hm:(fn.results.mapM (aAO a'.tmps)).run C.P w'=.ok us.toArray w':=by
   rw [Array.mapM_eq_mapM_toList,Sem.run_map,h1];rfl
  rw [CY,aPJ];refine⟨if h:us.toArray.size=1 then us.toArray[0] else .tuple us.toArray,by rw [hm];rfl,?_⟩;generalize (out.enc y).r=l3 at h3;cases l3 with
  | nil=>
   obtain rfl:=h3.bE;exact .mU .nil
  | cons c1 l3=>
   obtain⟨u1,nG,rfl,h4,h5⟩:=h3.cons_inv;cases l3 with
   | nil=>
    obtain rfl:=h5.bE;simpa [eE] using h4
   | cons c2 l3=>
    have:¬((u1 :: nG).toArray.size=1):=by
     have:=h5.1;simp at this ⊢;intro he;rw [he] at this;simp at this
    rw [dif_neg this];exact .mU (.cons h4 h5)
 obtain⟨u,hv1,hv2⟩:=hres;have ff:=f'.trans f2;rcases hx with rfl | rfl
 ·have he:e=.ret:=hx';subst he;exact⟨P7,u,hv1,R2,y7,u,rfl,hv2,r2,ff⟩
 ·have he:e=.normal:=hx';subst he;exact⟨P7,u,hv1,R2,y7,u,rfl,hv2,r2,ff⟩
theorem aRW (hC:C.Ok)(hT:T.Ok C.P){cX out:aF}{steps cN:List qO}{F:cX.El→Option out.El}{dr:H7 out.El}{lp:dK out.El}(hdr:nN C dr){f:FuncId}{fn:Func}{c:Code}(hfn:C.P.funcs[f]?=some fn)(hb:fn.body=some c)(hlp:aC C lp (aJ c))
  (hF:∀ x,kE C T cX out cN dr lp fn c x=F x):(DF.mk C.dB steps cX out F).Ok C.P f:=by
 intro x y hxy R ρ w vs hr hvs;obtain⟨ex,s',hK,hca⟩:=cV hC hT hdr c hlp _ _ _ ((hF x).trans hxy);exact P9 hfn hb hK hca hr hvs
def aW.dV (g:FuncId)(ks:List FuncId)(e:DF):aW:=.gen g ks ⟨fun h args K=>e.call h args K⟩
theorem aW.mZ {P:Program}{g:FuncId}{ks:List FuncId}{e:DF}(he:e.Ok P g):(aW.dV g ks e).Ok P:=fun β h args K z hc=>e.aYA he hc
theorem aW.lI (hC:C.Ok)(hT:T.Ok C.P){cX out:aF}{steps cN:List qO}{F:cX.El→Option out.El}{g:FuncId}{ks:List FuncId}{lp:dK out.El}{fn:Func}{c:Code}(hfn:C.P.funcs[g]?=some fn)(hb:fn.body=some c)(hlp:aC C lp (aJ c))
  (hF:∀ x,kE C T cX out cN (cB C T) lp fn c x=F x):(aW.dV g ks ⟨C.dB,steps,cX,out,F⟩).Ok C.P:=
 aW.mZ (aRW hC hT (eZ hC hT) hfn hb hlp hF)
end
def aOU (P:Program)(rd:Ty→TypeId→Bool):Ty→Nat→List Field→Bool
 | τ,off,[f]=>Nat.beq f.offset off&&(Nat.beq (P.cellsOf f.type) τ.sz&&rd τ f.type)
 | .pair a b,off,f :: g :: r=>Nat.beq f.offset off&&(Nat.beq (P.cellsOf f.type) a.sz&&(rd a f.type&&aOU P rd b (off+a.sz) (g :: r)))
 | _,_,_=>false
def rdB (P:Program):Nat→Ty→TypeId→Bool
 | 0,_,_=>false
 | n+1,τ,t=>match τ with
  | .int k=>match P.underlying t with
   | some (.int k')=>decide (k'=k)
   | _=>false
  | .bool=>match P.underlying t with
   | some .bool=>true
   | _=>false
  | .str=>match P.underlying t with
   | some .string=>true
   | _=>false
  | .gU k=>match P.underlying t with
   | some (.float k')=>decide (k'=k)
   | _=>false
  | .list zF=>match P.underlying t with
   | some (.slice e)=>rdB P n zF e&&(Nat.beq (P.cellsOf e) zF.sz&&Nat.blt 0 zF.sz)
   | _=>false
  | .pair a b=>match P.underlying t with
   | some (.struct fs)=>Nat.beq (P.cellsOf t) (Ty.pair a b).sz&&aOU P (rdB P n) (.pair a b) 0 fs.toList
   | _=>false
  | _=>false
theorem aLw {P:Program}{rd:Ty→TypeId→Bool}{rd':Ty→TypeId→Prop}(h:∀ τ t,rd τ t=true→rd' τ t):∀ (fs:List Field) (τ:Ty) (off:Nat),aOU P rd τ off fs=true→RdF P rd' τ off fs
 | [],τ,off,hb=>by cases τ <;> simp [aOU] at hb
 | [f],τ,off,hb=>by
  have hb:(Nat.beq f.offset off&&(Nat.beq (P.cellsOf f.type) τ.sz&&rd τ f.type))=true:=by cases τ <;> exact hb
  simp only [aKS] at hb;have:f.offset=off∧P.cellsOf f.type=τ.sz∧rd' τ f.type:=⟨aXS hb.1,aXS hb.2.1,h _ _ hb.2.2⟩;cases τ <;> exact this
 | f :: g :: r,τ,off,hb=>by
  cases τ with
  | pair a b=>
   simp only [aOU,aKS] at hb;exact⟨aXS hb.1,aXS hb.2.1,h _ _ hb.2.2.1,aLw h (g :: r) b _ hb.2.2.2⟩
  | _=>simp [aOU] at hb
theorem I9 {P:Program}:∀ (n:Nat) (τ:Ty) (t:TypeId),rdB P n τ t=true→Rd P n τ t
 | 0,τ,t,h=>by simp [rdB] at h
 | n+1,τ,t,h=>by
  cases τ with
  | int k=>
   simp only [rdB] at h
   split at h
   ·rename_i k' hk;have:k'=k:=by simpa using h
    subst this;exact hk
   ·cases h
  | bool=>
   simp only [rdB] at h
   split at h
   ·rename_i hk;exact hk
   ·cases h
  | str=>
   simp only [rdB] at h
   split at h
   ·rename_i hk;exact hk
   ·cases h
  | gU k=>
   simp only [rdB] at h
   split at h
   ·rename_i k' hk;have:k'=k:=by simpa using h
    subst this;exact hk
   ·cases h
  | list zF=>
   simp only [rdB] at h
   split at h
   ·rename_i e hk;simp only [aKS] at h;exact⟨e,hk,I9 n zF e h.1,aXS h.2.1,by simpa [Nat.blt_eq] using h.2.2⟩
   ·cases h
  | pair a b=>
   simp only [rdB] at h
   split at h
   ·rename_i fs hk;simp only [aKS] at h;exact⟨fs,hk,aXS h.1,aLw (fun τ t=>I9 n τ t) _ _ _ h.2⟩
   ·cases h
  | unit=>simp [rdB] at h
  | wrap a=>simp [rdB] at h
def aFd (w w':World):Prop:=w.keptBut w' (fun _=>False)∧(∀ a,a.block<w.heap.size→w'.frozen? a=w.frozen? a)∧∀ b,b<w.heap.size→w'.heap[b]?=w.heap[b]?
theorem aRX {w w':World}{R R':Nat→Prop}{ρ':Nm}{h':AH}(f:fB R gI [] w R' ρ' h' w'):aFd w w':=by
 refine⟨⟨f.os,f.output,fun b hb=>?_⟩,fun a ha=>vC (f.keeps _ ha Lv.none),fun b hb=>f.keeps b hb Lv.none⟩;rw [f.keeps b hb Lv.none];cases w.heap[b]? with
 | none=>rfl
 | some o=>cases o <;> simp
theorem aFd.frame {W w':World}(h:aFd W w')(may:MemPlace→Prop):W.keptBut w' may:=World.keptBut_mono (fun _ f=>f.elim) h.1
theorem aYB {C:dI}{g:FuncId}{ks:List FuncId}{ps:List O8}{F:Ps ps→Option (aS [.bool])}{hd:Bool}(he:(aW.fn g ks ⟨ps,[.bool],F,hd⟩).Ok C.P){x:Ps ps}(h:F x=some (true,())){w:World}{vs:Array Value}
  (hv:aK w (fun b=>b<w.heap.size) gI (bQ ps x) vs.toList) :
  Calls C.P g vs w fun e w'=>e=.returned (.bool true)∧aFd w w':=by
 have h1:=he x (true,()) h;refine(h1 (fun b=>b<w.heap.size) gI w vs (.base fun b hb=>hb) hv).mono ?_;rintro e w' ⟨R',ρ',v,⟨rfl,hv⟩,_,f⟩;have hv:aI w' R' ρ' (.bool true) v:=hv;cases hv;exact⟨rfl,aRX f⟩
section
open Go.ChangeShapes Go.WideShapes
variable {H:Type}{enc:TypeId×Value→H}{P:Program}
theorem aBh {f:Func}{s:ChangeSpec}{apart fresh handsOn again:Bool}{W W':World}{args:Array Value}{v:Value}{ds gs:List (DataW H)}{before pa pv:List MemPlace}
  (hW:DataW.Whole enc P f.params.toList s.vars apart W args.toList ds gs before)
  (hres:∀ (b:Nat) (sp:Nat→Bool) (hd:Bool),DataW.TrodAll enc P W' b sp hd f.resultTypes.toList (v.resultList f.resultTypes.size) (s.fn H (ds++gs)).results [])
  (hargs:∀ sp:Nat→Bool,(∀ p∈before,sp p.block=true)→DataW.TrodAll enc P W' 0 sp true f.params.toList args.toList (s.fn H (ds++gs)).args pa)
  (hvars:∀ sp:Nat→Bool,(∀ p∈before,sp p.block=true)→DataW.TrodVars enc P W' sp s.vars (s.fn H (ds++gs)).vars pv)
  (hps:before=pa++pv) (hk:W.keptBut W' (·∈before)) (hfz:∀ a,a.block<W.heap.size→W'.frozen? a=W.frozen? a)
  (hok:∀ (j:Nat) (t:TypeId) (r:Value),f.resultTypes[j]?=some t→(v.resultList f.resultTypes.size)[j]?=some r→Value.okWide P W' .any 0 t r) :
  s.post enc P f apart fresh handsOn again W args v W':=by
 have hold:∀ p∈before,(fun b=>decide (b<W.heap.size)) p.block=true:=fun p hp=>by simpa using hW.lt p hp
 refine⟨ds,gs,before,[],pa,pv,hW,hres _ _ _,hargs _ hold,hvars _ hold,World.keptBut_mono (fun p hp=>⟨hp,?_⟩) hk,fun _=>?_⟩
 ·rw [hps,aLA] at hp;exact Or.inr hp
 ·have hlt:=hW.lt;obtain⟨_,_,_,_,_,hz,hn⟩:=hW;refine⟨hok,_,_,([]++pa)++pv,⟨[]++pa,pv,trodAll_append (hargs _ (fun _ _=>rfl)) (hres _ _ _),hvars _ (fun _ _=>rfl),rfl,?_,?_⟩,?_⟩
  ·intro b off hp;have hp':MemPlace.cell b off∈before:=by rw [hps];simpa using hp
   rw [hfz ⟨b,off,none⟩ (hlt _ hp')];exact hz b off hp'
  ·intro ha;have:=hn ha;rw [hps] at this;simpa using this
  ·intro p hp _;rw [hps];simpa using hp
end
section
variable {C:dI}{T:Tb}
def cT (ft:TypeId)(e:Int):AV:=.iface ft (.agg [.int .i64 e])
def vN (ft:TypeId)(v:AV):Option Int:=match v with
 | .iface t (.agg [.int .i64 e])=>if Nat.beq t ft then some e else none
 | _=>none
theorem pN {ft:TypeId}{v:AV}{e:Int}(h:vN ft v=some e):v=cT ft e:=by
 unfold vN at h
 split at h
 ·split at h
  ·rename_i hc;have:=aXS hc;subst this;injection h with h;subst h;rfl
  ·cases h
 ·cases h
theorem iH {ft:TypeId}{e:Int}{w w':World}{R R':Nat→Prop}{ρ ρ':Nm}{u:Value}(hv:aI w R ρ (cT ft e) u):aI w' R' ρ' (cT ft e) u:=by
 unfold cT at hv ⊢;cases hv with
 | @iface _ _ u h=>
 obtain⟨us,rfl,fE⟩:=h.fU;obtain⟨v,vs,he,h1,h2⟩:=fE.cons_inv;obtain rfl:=h2.bE;cases h1;exact .iface (.xH (by rw [he];exact .cons (.int _ _) .nil))
theorem aK.a98 {w:World}{R:Nat→Prop}{ρ:Nm}:∀ (n:Nat) (us:List Value),us.length=n→aK w R ρ (List.replicate n .any) us
 | 0,us,h=>by
  have:us=[]:=a9w h;subst this;exact .nil
 | n+1,us,h=>by
  cases us with
  | nil=>simp at h
  | cons u us=>exact .cons (.any u) (aK.a98 n us (by simpa using h))
theorem CA.aYC {c:Code}{s s':AS}{ft:TypeId}{e:Int}{n:Nat}(hc:CA C c s (.fN (cT ft e)) s')(hn:s'.r.length=n):CA C c s (.fN (cT ft e)) (XE C.dB n):=by
 intro R ρ a w hr ha hd;refine wp_mono (hc R ρ a w hr ha hd) fun q a' w' hf=>?_;obtain⟨h1,R',ρ',h2,h3,h4,u,he,hu⟩:=hf;have hnone:∀ (i:Nat) (blk:cQ),(List.replicate C.dB (none:Option cQ))[i]?=some (some blk)→False:=by
  intro i blk hi;rw [List.getElem?_replicate] at hi
  split at hi <;> simp at hi
 refine⟨h1,R',fun i=>if i<C.dB then ρ' i else none,⟨fun i blk hi=>(hnone i blk hi).elim,fun i j bi bj b Ni Nj hi=>(hnone i bi hi).elim,fun i hi=>?_,h2.ro⟩,?_,⟨h4.os,h4.tape,h4.output,h4.size,h4.mV,h4.keeps,?_,h4.cZ,h4.kQ,fun i bn hi h=>?_⟩,u,he,iH hu⟩
 ·have hi:C.dB≤i:=by simpa [XE] using hi
  exact aJn (by omega)
 ·have:=h3.1;exact aK.a98 n _ (by rw [this];exact hn)
 ·rintro b ⟨i,blk,N,hi,_⟩;exact(hnone i blk hi).elim
 ·show(if i<C.dB then ρ' i else none)=_;rw [aJb hi];exact h4.pins i bn hi h
structure M2 where
 ft:TypeId
 ps:List O8
 rs:List Ty
 F:Ps ps→Option (aS rs⊕Int)
 hid:Bool:=false
def M2.Ok (P:Program)(g:FuncId)(e:M2):Prop:=
 (∀ x y,e.F x=some (.inl y)→AC P g (bQ e.ps x) [] (.ret (eE (i4 e.rs y))) []) ∧
 ∀ x n,e.F x=some (.inr n)→AC P g (bQ e.ps x) [] (.fN (cT e.ft n)) []
def M2.run (e:M2){β:Type}(h:AH)(args:List AV)(K Kp:AV→AH→Option β):Option β:=match qX e.ps h args with
 | some (x,h1)=>(e.F x).bind fun r=>Sum.elim (fun y=>if e.hid then K (eE ((i4 e.rs y).map PJ)) h else K (eE (i4 e.rs y)) (if mX e.rs then h else h1)) (fun n=>Kp (cT e.ft n) h) r
 | none=>none
theorem AC.aYD {P:Program}{g:FuncId}{args:List AV}{ft:TypeId}{n:Int}{R:Nat→Prop}{ρ:Nm}{h:AH}{w:World}(hc:AC P g args [] (.fN (cT ft n)) [])(ha:∀ c∈args,bN c)(hr:Rel R ρ h w){vs:Array Value}(hvs:aK w R ρ args vs.toList) :
  Calls P g vs w fun e w'=>∃ R' u,e=.panicked [{ v:=u,recovered:=false }]∧aI w' R' ρ (cT ft n) u∧Rel R' ρ h w'∧fB R ρ h w R' ρ h w'∧∀ b,b<w.heap.size→w'.heap[b]?=w.heap[b]?:=by
 refine(hc R gI w vs (.base hr.ro) (bN.O9 ha hvs)).mono ?_;rintro e w' ⟨R',ρ',u,⟨rfl,hu⟩,r1,f1⟩;obtain rfl:=r1.oG;have hnl:∀ b,¬Lv gI [] b:=by rintro b ⟨i,blk,N,hi,_⟩;simp at hi
 have hkeep:∀ b,b<w.heap.size→w'.heap[b]?=w.heap[b]?:=fun b hb=>f1.keeps b hb (hnl b);refine⟨R',u,rfl,iH hu,⟨fun i blk hi=>?_,hr.inj,hr.dom,r1.ro⟩,⟨f1.os,f1.tape,f1.output,f1.size,Nm.le_refl _,f1.mV,fun b hb _=>hkeep b hb,fun b hl=>.inl hl,fun b hb=>?_,aKQ _,fun _ _ h=>h,f1.kQ⟩,hkeep⟩
 ·obtain⟨b,N,h1,h2,h3⟩:=hr.live i blk hi;refine⟨b,N,h1,h2.mono h3 (fun hg=>hkeep b (h2.lt hg)) (fun k hk=>hkeep k (hr.ro k hk)) f1.mV (Nm.le_refl _),?_⟩;rcases h3 with⟨h4,h5⟩ | h4
  ·refine .inl ⟨h4,fun hb=>?_⟩;rcases f1.cZ b hb with h6 | h6 | h6
   ·exact h5 h6
   ·exact hnl b h6
   ·have:=h2.lt h4;omega
  ·exact .inr h4
 ·rcases f1.cZ b hb with h6 | h6 | h6
  ·exact .inl h6
  ·exact absurd h6 (hnl b)
  ·exact .inr (.inr h6)
theorem M2.QA {P:Program}{g:FuncId}{e:M2}(he:e.Ok P g):aIm.Ok P g ⟨fun h args K Kp=>e.run h args K Kp⟩:=by
 intro β h args K Kp z hc;have hc:e.run h args K Kp=some z:=hc;unfold M2.run at hc
 split at hc
 ·rename_i x h1 hf;obtain⟨r,hy,hK⟩:=aXE.1 hc;cases r with
  | inl y=>
   left;simp only [aQM] at hK;cases hh:e.hid with
   | true=>
    rw [hh] at hK;simp only [if_true] at hK;refine⟨_,_,hK,fun R ρ w vs hr hvs=>?_⟩;obtain⟨R1,r1,f1,v1⟩:=gA e.ps hf hr hvs;refine((he.1 x y hy).xU (dP _ _) (.eE (gB _ _)) r1 v1).mono ?_;rintro ee w' ⟨R',u,rfl,hu,r2,f2,hkp⟩;obtain⟨r3,f3⟩:=rZ hr f1 r1 r2 f2 (fun b hl _ _=>hkp b (hr.iS hl));exact⟨_,ρ,u,rfl,aEO hu,r3,f3⟩
   | false=>
   rw [hh] at hK;simp only [aZC,if_false] at hK;refine⟨_,_,hK,fun R ρ w vs hr hvs=>?_⟩;obtain⟨R1,r1,f1,v1⟩:=gA e.ps hf hr hvs;refine((he.1 x y hy).xU (dP _ _) (.eE (gB _ _)) r1 v1).mono ?_;rintro ee w' ⟨R',u,rfl,hu,r2,f2,hkp⟩;cases hn:mX e.rs with
   | true=>
    simp only [if_true];obtain⟨r3,f3⟩:=rZ hr f1 r1 r2 f2 (fun b hl _ _=>hkp b (hr.iS hl));exact⟨_,ρ,u,rfl,IM hn hu,r3,f3⟩
   | false=>
    simp only [aZC,if_false];exact⟨R',ρ,u,rfl,hu,r2,f1.trans f2⟩
  | inr n=>
   right;simp only [Sum.elim_inr] at hK;refine⟨_,_,hK,fun R ρ w vs hr hvs=>?_⟩;obtain⟨R1,r1,f1,v1⟩:=gA e.ps hf hr hvs;refine((he.2 x n hy).aYD (dP _ _) r1 v1).mono ?_;rintro ee w' ⟨R',u,rfl,hu,r2,f2,hkp⟩;obtain⟨r3,f3⟩:=rZ hr f1 r1 r2 f2 (fun b hl _ _=>hkp b (hr.iS hl));exact⟨_,ρ,u,rfl,iH hu,r3,f3⟩
 ·cases hc
theorem aLx {f:FuncId}{fn:Func}{c:Code}(hfn:C.P.funcs[f]?=some fn)(hb:fn.body=some c){args:List AV}{h0:AH}{ft:TypeId}{n:Int}{s':AS}(hca:CA C c ⟨args++List.replicate (fn.ntmps-args.length) .undef,h0⟩ (.fN (cT ft n)) s')
  {R:Nat→Prop} {ρ:Nm} {w:World} {vs:Array Value} (hr:Rel R ρ h0 w) (hvs:aK w R ρ args vs.toList) :
  Calls C.P f vs w fun q w'=>∃ R' u,q=.panicked [{ v:=u,recovered:=false }]∧aI w' R' gI (cT ft n) u∧Rel R' gI [] w'∧eF 0 R ρ h0 w R' gI [] w':=by
 have hsz:vs.size=args.length:=by have:=hvs.1;simpa using this
 have ha:b9 w R ρ (args++List.replicate (fn.ntmps-args.length) .undef) { tmps:=vs++Array.replicate (fn.ntmps-vs.size) undef,defers:=[] }:=by
  unfold b9;simp only [Array.toList_append,Array.toList_replicate,hsz];exact hvs.append (aK.replicate .undef _)
 refine calls_of_wp hfn hb ?_;refine wp_mono (hca R ρ _ w hr ha rfl) ?_;rintro e a' w' ⟨P7,R',ρ',hr',ha',f',u,rfl,hu⟩;exact⟨P7,R',u,rfl,iH hu,.base hr'.ro,⟨f'.os,f'.tape,f'.output,f'.size,f'.mV,f'.keeps,fun b hl=>absurd hl Lv.none,f'.cZ,f'.kQ,fun i bn hi=>absurd hi (a9x _)⟩⟩
theorem eF.bFt {p:Nat}{R R':Nat→Prop}{w w':World}{ρ:Nm}(hr:Rel R ρ [] w)(f:eF p R ρ [] w R' gI [] w'):fB R ρ [] w R' gI [] w':=by
 obtain rfl:=hr.oG;exact⟨f.os,f.tape,f.output,f.size,Nm.le_refl _,f.mV,f.keeps,f.cW,f.cZ,aKQ _,fun _ _ h=>h,f.kQ⟩
def aRY (C:dI)(ft:TypeId)(rs:List Ty)(res:List ResultVar)(x:AX)(s:AS):Option (aS rs⊕Int):=match x with
 | .fN v=>match vN ft v with
  | some e=>some (.inr e)
  | none=>none
 | x=>match aOD C rs res x s with
  | some y=>some (.inl y)
  | none=>none
theorem aRZ {ft:TypeId}{rs:List Ty}{res:List ResultVar}{x:AX}{s:AS}{y:aS rs}(h:aRY C ft rs res x s=some (.inl y)):aOD C rs res x s=some y:=by
 unfold aRY at h
 split at h
 ·split at h <;> simp at h
 ·split at h
  ·rename_i hk;rw [hk];injection h with h;injection h with h;rw [h]
  ·cases h
theorem aR0 {ft:TypeId}{rs:List Ty}{res:List ResultVar}{x:AX}{s:AS}{n:Int}(h:aRY C ft rs res x s=some (.inr n)):x=.fN (cT ft n):=by
 unfold aRY at h
 split at h
 ·split at h
  ·rename_i e hk;injection h with h;injection h with h;subst h
   rw [pN hk]
  ·cases h
 ·split at h <;> simp at h
def aR1 (C:dI)(T:Tb)(ft:TypeId)(rs:List Ty)(dr:H7 (aS rs⊕Int))(lp:dK (aS rs⊕Int))(fn:Func)(c:Code)(args:List AV):Option (aS rs⊕Int):=
 aV C T dr lp c ⟨args++List.replicate (fn.ntmps-args.length) .undef,[]⟩ (aRY C ft rs fn.results.toList)
theorem aFe (hC:C.Ok)(hT:T.Ok C.P){ft:TypeId}{rs:List Ty}{dr:H7 (aS rs⊕Int)}{lp:dK (aS rs⊕Int)}(hdr:nN C dr){f:FuncId}{fn:Func}{c:Code}(hfn:C.P.funcs[f]?=some fn)(hb:fn.body=some c)(hlp:aC C lp (aJ c))
  {args:List AV} {r:aS rs⊕Int} (hf:aR1 C T ft rs dr lp fn c args=some r):AC C.P f args [] (Sum.elim (fun y=>.ret (eE (i4 rs y))) (fun n=>.fN (cT ft n)) r) []:=by
 obtain⟨x,s',hK,hca⟩:=cV hC hT hdr c hlp _ _ _ hf;cases r with
 | inl y=>exact PR hfn hb (aRZ hK) hca
 | inr n=>
  have:=aR0 hK;subst this;intro R ρ w vs hr hvs;refine(aLx hfn hb hca hr hvs).mono ?_;rintro q w' ⟨R',u,rfl,hu,r',f'⟩;exact⟨R',gI,u,⟨rfl,hu⟩,r',f'.bFt hr⟩
def aW.e9 (g:FuncId)(ks:List FuncId)(e:M2):aW:=.fN g ks ⟨fun h args K Kp=>e.run h args K Kp⟩
theorem aW.aR2 {P:Program}{g:FuncId}{ks:List FuncId}{e:M2}(he:e.Ok P g):(aW.e9 g ks e).Ok P:=M2.QA he
theorem aW.a99 (hC:C.Ok)(hT:T.Ok C.P){g:FuncId}{ks:List FuncId}{e:M2}{lp:dK (aS e.rs⊕Int)}{fn:Func}{c:Code}(hfn:C.P.funcs[g]?=some fn)(hb:fn.body=some c)(hlp:aC C lp (aJ c))
  (hF:∀ x,aR1 C T e.ft e.rs (cB C T) lp fn c (bQ e.ps x)=e.F x):(aW.e9 g ks e).Ok C.P:=
 aW.aR2 ⟨fun x y h=>aFe hC hT (eZ hC hT) hfn hb hlp ((hF x).trans h),fun x n h=>aFe hC hT (eZ hC hT) hfn hb hlp ((hF x).trans h)⟩
structure pO where
 ft:TypeId
 dB:Nat
 steps:List qO
 cX:aF
 out:aF
 F:cX.El→Option (out.El⊕Int)
def pO.Ok (P:Program)(g:FuncId)(e:pO):Prop:=
 (∀ x y,e.F x=some (.inl y)→∀ (R:Nat→Prop) (ρ:Nm) (w:World) (vs:Array Value),Rel R ρ (e.cX.enc x).h w→aK w R ρ (e.cX.enc x).r vs.toList →
  Calls P g vs w fun q w'=>∃ R' ρ' u,q=.returned u∧aI w' R' ρ' (eE (e.out.enc y).r) u∧Rel R' ρ' (e.out.enc y).h w'∧eF e.dB R ρ (e.cX.enc x).h w R' ρ' (e.out.enc y).h w') ∧
 ∀ x n,e.F x=some (.inr n)→∀ (R:Nat→Prop) (ρ:Nm) (w:World) (vs:Array Value),Rel R ρ (e.cX.enc x).h w→aK w R ρ (e.cX.enc x).r vs.toList →
  Calls P g vs w fun q w'=>∃ R' u,q=.panicked [{ v:=u,recovered:=false }]∧aI w' R' gI (cT e.ft n) u∧Rel R' gI [] w'∧eF 0 R ρ (e.cX.enc x).h w R' gI [] w'
def pO.run (e:pO){β:Type}(h:AH)(args:List AV)(K Kp:AV→AH→Option β):Option β:=
 DB (jP e.steps ⟨args,h⟩) fun s=>
 match e.cX.dec 0 s with
 | some x=>if Nat.ble e.dB e.cX.dS.length&&(Nat.ble e.dB e.out.dS.length&&e.out.names.all (fun i=>decide (i<e.out.dS.length))) then
   (e.F x).bind fun r=>Sum.elim (fun y=>K (eE (L0 (behind e.dB (e.cX.sig s) s.h.length) e.out.fH y.1 (List.replicate e.out.n .any)))
    (jI (e.cX.sig s) ((jF (behind e.dB (e.cX.sig s) s.h.length) e.out.dS y.2).take e.dB) s.h++(jF (behind e.dB (e.cX.sig s) s.h.length) e.out.dS y.2).drop e.dB))
    (fun n=>Kp (cT e.ft n) (jI (e.cX.sig s) [] s.h)) r
  else none
 | none=>none
def bFu (ft:TypeId)(n:Int)(q:Ending)(u:Value):Prop:=∃ v,q=.panicked [{ v:=v,recovered:=false }]∧(∀ (w:World) (R:Nat→Prop) (ρ:Nm),aI w R ρ (cT ft n) v)∧u=.tuple #[]
abbrev YV:aF:=⟨0,[],[],fun _=>[]⟩
theorem aOV {P:Program}{g:FuncId}{ft:TypeId}{n:Int}{steps:List qO}{cX:aF}{x:cX.El}
  (he:∀ (R:Nat→Prop) (ρ:Nm) (w:World) (vs:Array Value),Rel R ρ (cX.enc x).h w→aK w R ρ (cX.enc x).r vs.toList →
   Calls P g vs w fun q w'=>∃ R' u,q=.panicked [{ v:=u,recovered:=false }]∧aI w' R' gI (cT ft n) u∧Rel R' gI [] w'∧eF 0 R ρ (cX.enc x).h w R' gI [] w')
  {h:AH} {args:List AV} {s:AS} (hs:jP steps ⟨args,h⟩=s) (hx:cX.dec 0 s=some x):aAT P g args h (cT ft n) (jI (cX.sig s) [] s.h):=by
 intro R ρ w vs hr hvs;refine(xZ (out:=YV) (y:=((),())) (dB:=0) (End:=bFu ft n) (fun R ρ w vs hr hvs=>?_) hs hx (aLj _) (aLj _) rfl R ρ w vs hr hvs).mono ?_
 ·refine(he R ρ w vs hr hvs).mono ?_;rintro q w' ⟨R',u,rfl,hu,r',f'⟩;exact⟨R',gI,.tuple #[],⟨u,rfl,fun _ _ _=>iH hu,rfl⟩,.mU .nil,r',f'⟩
 ·rintro q w' ⟨R',ρ',u,⟨v,rfl,hv,_⟩,_,r',f'⟩;have e:jI (cX.sig s) ((jF (behind 0 (cX.sig s) s.h.length) YV.dS ()).take 0) s.h++(jF (behind 0 (cX.sig s) s.h.length) YV.dS ()).drop 0=jI (cX.sig s) [] s.h:=by
   show jI (cX.sig s) [] s.h++[]=_;rw [a1d]
  rw [e] at r' f';exact⟨R',ρ',v,rfl,hv _ _ _,r',f'⟩
theorem pO.QA {P:Program}{g:FuncId}{e:pO}(he:e.Ok P g):aIm.Ok P g ⟨fun h args K Kp=>e.run h args K Kp⟩:=by
 intro β h args K Kp z hc;have hc:e.run h args K Kp=some z:=hc;unfold pO.run at hc;rw [sD] at hc
 split at hc
 ·rename_i x hx
  split at hc
  ·rename_i L1;simp only [aKS] at L1;obtain⟨hp1,hp2,hnm⟩:=L1;have hp1:=a9q hp1;have hp2:=a9q hp2;obtain⟨r,hy,hK⟩:=aXE.1 hc;cases r with
   | inl y=>exact .inl ⟨_,_,hK,xZ (End:=fun q u=>q=.returned u) (fun R ρ w vs hr hvs=>he.1 x y hy R ρ w vs hr hvs) rfl hx hp1 hp2 hnm⟩
   | inr n=>exact .inr ⟨_,_,hK,aOV (fun R ρ w vs hr hvs=>he.2 x n hy R ρ w vs hr hvs) rfl hx⟩
  ·cases hc
 ·cases hc
def aFf (C:dI)(ft:TypeId)(out:aF)(steps:List qO)(res:List ResultVar)(x:AX)(s:AS):Option (out.El⊕Int):=match x with
 | .fN v=>match vN ft v with
  | some e=>some (.inr e)
  | none=>none
 | x=>match aIQ C out steps res x s with
  | some y=>some (.inl y)
  | none=>none
theorem aOW {ft:TypeId}{out:aF}{steps:List qO}{res:List ResultVar}{x:AX}{s:AS}{y:out.El}(h:aFf C ft out steps res x s=some (.inl y)):aIQ C out steps res x s=some y:=by
 unfold aFf at h
 split at h
 ·split at h <;> simp at h
 ·split at h
  ·rename_i hk;rw [hk];injection h with h;injection h with h;rw [h]
  ·cases h
theorem aOX {ft:TypeId}{out:aF}{steps:List qO}{res:List ResultVar}{x:AX}{s:AS}{n:Int}(h:aFf C ft out steps res x s=some (.inr n)):x=.fN (cT ft n):=by
 unfold aFf at h
 split at h
 ·split at h
  ·rename_i e hk;injection h with h;injection h with h;subst h
   rw [pN hk]
  ·cases h
 ·split at h <;> simp at h
def vO (C:dI)(T:Tb)(ft:TypeId)(cX out:aF)(steps:List qO)(dr:H7 (out.El⊕Int))(lp:dK (out.El⊕Int))(fn:Func)(c:Code)(x:cX.El):Option (out.El⊕Int):=
 aV C T dr lp c ⟨(cX.enc x).r++List.replicate (fn.ntmps-(cX.enc x).r.length) .undef,(cX.enc x).h⟩ (aFf C ft out steps fn.results.toList)
theorem JA (hC:C.Ok)(hT:T.Ok C.P){ft:TypeId}{cX out:aF}{steps cN:List qO}{F:cX.El→Option (out.El⊕Int)}{dr:H7 (out.El⊕Int)}{lp:dK (out.El⊕Int)}(hdr:nN C dr){f:FuncId}{fn:Func}{c:Code}(hfn:C.P.funcs[f]?=some fn)(hb:fn.body=some c)(hlp:aC C lp (aJ c))
  (hF:∀ x,vO C T ft cX out cN dr lp fn c x=F x):(pO.mk ft C.dB steps cX out F).Ok C.P f:=by
 refine⟨fun x y hxy R ρ w vs hr hvs=>?_,fun x n hxy R ρ w vs hr hvs=>?_⟩
 ·obtain⟨ex,s',hK,hca⟩:=cV hC hT hdr c hlp _ _ _ ((hF x).trans hxy);exact P9 hfn hb (aOW hK) hca hr hvs
 ·obtain⟨ex,s',hK,hca⟩:=cV hC hT hdr c hlp _ _ _ ((hF x).trans hxy);have:=aOX hK;subst this;exact aLx hfn hb hca hr hvs
def aW.DG (g:FuncId)(ks:List FuncId)(e:pO):aW:=.fN g ks ⟨fun h args K Kp=>e.run h args K Kp⟩
theorem aW.aOY {P:Program}{g:FuncId}{ks:List FuncId}{e:pO}(he:e.Ok P g):(aW.DG g ks e).Ok P:=pO.QA he
theorem aW.QB (hC:C.Ok)(hT:T.Ok C.P){ft:TypeId}{cX out:aF}{steps cN:List qO}{F:cX.El→Option (out.El⊕Int)}{g:FuncId}{ks:List FuncId}{lp:dK (out.El⊕Int)}{fn:Func}{c:Code}(hfn:C.P.funcs[g]?=some fn)(hb:fn.body=some c)(hlp:aC C lp (aJ c))
  (hF:∀ x,vO C T ft cX out cN (cB C T) lp fn c x=F x):(aW.DG g ks ⟨ft,C.dB,steps,cX,out,F⟩).Ok C.P:=
 aW.aOY (JA hC hT (eZ hC hT) hfn hb hlp hF)
structure M3 where
 dB:Nat
 steps:List qO
 cX:aF
 out:aF
 F:cX.El→Option (out.El⊕Int)
def M3.Ok (P:Program)(g:FuncId)(e:M3):Prop:=
 (∀ x y,e.F x=some (.inl y)→∀ (R:Nat→Prop) (ρ:Nm) (w:World) (vs:Array Value),Rel R ρ (e.cX.enc x).h w→aK w R ρ (e.cX.enc x).r vs.toList →
  Calls P g vs w fun q w'=>∃ R' ρ' u,q=.returned u∧aI w' R' ρ' (eE (e.out.enc y).r) u∧Rel R' ρ' (e.out.enc y).h w'∧eF e.dB R ρ (e.cX.enc x).h w R' ρ' (e.out.enc y).h w') ∧
 ∀ x n,e.F x=some (.inr n)→∀ (R:Nat→Prop) (ρ:Nm) (w:World) (vs:Array Value),Rel R ρ (e.cX.enc x).h w→aK w R ρ (e.cX.enc x).r vs.toList →
  Calls P g vs w fun q w'=>∃ R',q=.returned (.int .i64 n)∧Rel R' gI [] w'∧eF 0 R ρ (e.cX.enc x).h w R' gI [] w'
def M3.run (e:M3){β:Type}(h:AH)(args:List AV)(K:AV→AH→Option β):Option β:=
 DB (jP e.steps ⟨args,h⟩) fun s=>
 match e.cX.dec 0 s with
 | some x=>if Nat.ble e.dB e.cX.dS.length&&(Nat.ble e.dB e.out.dS.length&&e.out.names.all (fun i=>decide (i<e.out.dS.length))) then
   (e.F x).bind fun r=>Sum.elim (fun y=>K (eE (L0 (behind e.dB (e.cX.sig s) s.h.length) e.out.fH y.1 (List.replicate e.out.n .any)))
    (jI (e.cX.sig s) ((jF (behind e.dB (e.cX.sig s) s.h.length) e.out.dS y.2).take e.dB) s.h++(jF (behind e.dB (e.cX.sig s) s.h.length) e.out.dS y.2).drop e.dB))
    (fun n=>K (.int .i64 n) (jI (e.cX.sig s) [] s.h)) r
  else none
 | none=>none
theorem aIR {P:Program}{g:FuncId}{n:Int}{steps:List qO}{cX:aF}{x:cX.El}
  (he:∀ (R:Nat→Prop) (ρ:Nm) (w:World) (vs:Array Value),Rel R ρ (cX.enc x).h w→aK w R ρ (cX.enc x).r vs.toList →
   Calls P g vs w fun q w'=>∃ R',q=.returned (.int .i64 n)∧Rel R' gI [] w'∧eF 0 R ρ (cX.enc x).h w R' gI [] w')
  {h:AH} {args:List AV} {s:AS} (hs:jP steps ⟨args,h⟩=s) (hx:cX.dec 0 s=some x):vF P g args h (.int .i64 n) (jI (cX.sig s) [] s.h):=by
 intro R ρ w vs hr hvs;refine(xZ (out:=YV) (y:=((),())) (dB:=0) (End:=fun q u=>q=.returned (.int .i64 n)) (fun R ρ w vs hr hvs=>?_) hs hx (aLj _) (aLj _) rfl R ρ w vs hr hvs).mono ?_
 ·refine(he R ρ w vs hr hvs).mono ?_;rintro q w' ⟨R',rfl,r',f'⟩;exact⟨R',gI,.tuple #[],rfl,.mU .nil,r',f'⟩
 ·rintro q w' ⟨R',ρ',u,rfl,_,r',f'⟩;have e:jI (cX.sig s) ((jF (behind 0 (cX.sig s) s.h.length) YV.dS ()).take 0) s.h++(jF (behind 0 (cX.sig s) s.h.length) YV.dS ()).drop 0=jI (cX.sig s) [] s.h:=by
   show jI (cX.sig s) [] s.h++[]=_;rw [a1d]
  rw [e] at r' f';exact⟨R',ρ',_,rfl,.int _ _,r',f'⟩
theorem M3.QA {P:Program}{g:FuncId}{e:M3}(he:e.Ok P g){β:Type}{h:AH}{args:List AV}{K:AV→AH→Option β}{z:β}(hc:e.run h args K=some z):∃ v h',K v h'=some z∧vF P g args h v h':=by
 unfold M3.run at hc;rw [sD] at hc
 split at hc
 ·rename_i x hx
  split at hc
  ·rename_i L1;simp only [aKS] at L1;obtain⟨hp1,hp2,hnm⟩:=L1;have hp1:=a9q hp1;have hp2:=a9q hp2;obtain⟨r,hy,hK⟩:=aXE.1 hc;cases r with
   | inl y=>exact⟨_,_,hK,xZ (End:=fun q u=>q=.returned u) (fun R ρ w vs hr hvs=>he.1 x y hy R ρ w vs hr hvs) rfl hx hp1 hp2 hnm⟩
   | inr n=>exact⟨_,_,hK,aIR (fun R ρ w vs hr hvs=>he.2 x n hy R ρ w vs hr hvs) rfl hx⟩
  ·cases hc
 ·cases hc
def aW.aR3 (g:FuncId)(ks:List FuncId)(e:M3):aW:=.gen g ks ⟨fun h args K=>e.run h args K⟩
theorem aW.aFg {P:Program}{g:FuncId}{ks:List FuncId}{e:M3}(he:e.Ok P g):(aW.aR3 g ks e).Ok P:=fun β h args K z hc=>M3.QA he hc
def nJ {p:Nat}{X A B:Type}(L:Lay p X)(E:kU p A B)(ft:TypeId)(n:Nat)(x:AX)(s:AS):Option (X⊕((A⊕B)⊕Int)):=match x with
 | .fN v=>match vN ft v with
  | some e=>if Nat.beq s.r.length n then some (.inr (.inr e)) else none
  | none=>none
 | x=>match bG L E x s with
  | some (.inl x)=>some (.inl x)
  | some (.inr y)=>some (.inr (.inl y))
  | none=>none
theorem aBi {p:Nat}{X A B:Type}{L:Lay p X}{E:kU p A B}{ft:TypeId}{n:Nat}{x:AX}{s:AS}{z:X⊕((A⊕B)⊕Int)}(h:nJ L E ft n x s=some z) :
  (∃ e,x=.fN (cT ft e)∧s.r.length=n∧z=.inr (.inr e))∨(∃ x',bG L E x s=some (.inl x')∧z=.inl x')∨∃ y,bG L E x s=some (.inr y)∧z=.inr (.inl y):=by
 unfold nJ at h
 split at h
 ·split at h
  ·rename_i e hk
   split at h
   ·rename_i hc;injection h with h
    exact .inl ⟨e,by rw [pN hk],aXS hc,h.symm⟩
   ·cases h
  ·cases h
 ·split at h
  ·rename_i hk;injection h with h;exact .inr (.inl ⟨_,hk,h.symm⟩)
  ·rename_i hk;injection h with h;exact .inr (.inr ⟨_,hk,h.symm⟩)
  ·cases h
theorem QC (hC:C.Ok)(hT:T.Ok C.P){X A B:Type}{dr:H7 (X⊕((A⊕B)⊕Int))}{lp:dK (X⊕((A⊕B)⊕Int))}(hdr:nN C dr){c:Code}(hlp:aC C lp (aJ c)){L:Lay C.dB X}{E:kU C.dB A B}{ft:TypeId}{m:Nat}
  {G:X→Option (X⊕((A⊕B)⊕Int))} (hG:∀ x,aV C T dr lp c (L.enc x) (nJ L E ft m)=G x) (hxa:E.xa.same .normal=false) (LU:E.xb.same .normal=false) (hpa:∀ v,E.xa≠.fN v) (hpb:∀ v,E.xb≠.fN v) :
  ∀ (n:Nat) (x:X) (y:(A⊕B)⊕Int),aH G n x=some y→CL C c (L.enc x) (Sum.elim (fun ab=>Sum.elim (fun _=>E.xa) (fun _=>E.xb) ab) (fun e=>.fN (cT ft e)) y) (Sum.elim (fun ab=>Sum.elim E.la.enc E.lb.enc ab) (fun _=>XE C.dB m) y)
 | 0,x,y,h=>by simp [aH] at h
 | n+1,x,y,h=>by
  simp only [aH] at h;obtain⟨z,hz,h⟩:=aXE.1 h;obtain⟨x',s',hK,hca⟩:=cV hC hT hdr c hlp _ _ z ((hG x).trans hz);rcases aBi hK with⟨e,rfl,hn,rfl⟩ | ⟨x2,hb,rfl⟩ | ⟨y2,hb,rfl⟩
  ·simp only [Sum.elim_inr,aJp] at h;subst h;exact CL.out (hca.aYC hn) (fun e=>by cases e)
  ·unfold bG at hb
   split at hb
   ·rename_i hx;have:=AX.nS hx;subst this
    split at hb
    ·rename_i x3 hd;injection hb with hb;injection hb with hb;subst hb
     exact CL.step hca ((QC hC hT hdr hlp hG hxa LU hpa hpb n x3 y h).pre (L.ok _ _ hd))
    ·cases hb
   ·split at hb
    ·split at hb <;> simp at hb
    ·split at hb
     ·split at hb <;> simp at hb
     ·cases hb
  ·simp only [Sum.elim_inr,aJp] at h;subst h;unfold bG at hb
   split at hb
   ·split at hb <;> simp at hb
   ·split at hb
    ·rename_i hx;have:=AX.nS hx;subst this
     split at hb
     ·rename_i a hd;injection hb with hb;injection hb with hb;subst hb
      exact CL.out (hca.YG hpa (E.la.ok _ _ hd)) (fun e=>by have e:E.xa=.normal:=e;rw [e] at hxa;cases hxa)
     ·cases hb
    ·split at hb
     ·rename_i hx;have:=AX.nS hx;subst this
      split at hb
      ·rename_i b hd;injection hb with hb;injection hb with hb;subst hb
       exact CL.out (hca.YG hpb (E.lb.ok _ _ hd)) (fun e=>by have e:E.xb=.normal:=e;rw [e] at LU;cases LU)
      ·cases hb
     ·cases hb
def pP {p:Nat}{X A B β:Type}(L:Lay p X)(E:kU p A B)(ft:TypeId)(m:Nat)(F:X→Option ((A⊕B)⊕Int))(s:AS)(K:AX→AS→Option β):Option β:=match L.dec s with
 | some x=>(F x).bind fun y=>Sum.elim (fun ab=>Sum.elim (fun a=>K E.xa (E.la.enc a)) (fun b=>K E.xb (E.lb.enc b)) ab) (fun e=>K (.fN (cT ft e)) (XE p m)) y
 | none=>none
theorem aOZ {X A B β:Type}{L:Lay C.dB X}{E:kU C.dB A B}{ft:TypeId}{m:Nat}{F:X→Option ((A⊕B)⊕Int)}{c:Code}(hF:∀ x y,F x=some y→CL C c (L.enc x) (Sum.elim (fun ab=>Sum.elim (fun _=>E.xa) (fun _=>E.xb) ab) (fun e=>.fN (cT ft e)) y) (Sum.elim (fun ab=>Sum.elim E.la.enc E.lb.enc ab) (fun _=>XE C.dB m) y))
  {s:AS} {K:AX→AS→Option β} {z:β} (hx:pP L E ft m F s K=some z):∃ x s',K x s'=some z∧CA C (.loop c) s x s':=by
 unfold pP at hx
 split at hx
 ·rename_i x hd;obtain⟨y,hy,hx⟩:=aXE.1 hx;have h1:=((hF x y hy).pre (L.ok _ _ hd)).loop;cases y with
  | inl ab=>cases ab with
   | inl a=>exact⟨_,_,hx,h1⟩
   | inr b=>exact⟨_,_,hx,h1⟩
  | inr e=>exact⟨_,_,hx,h1⟩
 ·cases hx
end
section
variable {C:dI}{T:Tb}
def aR4 {β:Type}(C:dI)(T:Tb)(dr:H7 β)(lp:dK β)(c:Code):Nat→AS→(AX→AS→Option β)→Option β
 | 0,_,_=>none
 | n+1,s,K=>aV C T dr lp c s fun x s'=>match x with
  | .normal=>aR4 C T dr lp c n s' K
  | x=>K x s'
theorem aLy {β:Type}(hC:C.Ok)(hT:T.Ok C.P){dr:H7 β}(hdr:nN C dr){lp:dK β}{c:Code}(hlp:aC C lp (aJ c)):∀ (n:Nat) (s:AS) (K:AX→AS→Option β) (z:β),aR4 C T dr lp c n s K=some z→∃ x s',K x s'=some z∧CL C c s x s'
 | 0,s,K,z,h=>by cases h
 | n+1,s,K,z,h=>by
  simp only [aR4] at h;obtain⟨x,s1,hK,hc⟩:=cV hC hT hdr c hlp s _ z h;cases x with
  | normal=>
   obtain⟨x2,s2,h2,hl⟩:=aLy hC hT hdr hlp n s1 K z hK;exact⟨x2,s2,h2,CL.step hc hl⟩
  | exit id=>exact⟨_,s1,hK,CL.out hc (by simp)⟩
  | ret=>exact⟨_,s1,hK,CL.out hc (by simp)⟩
  | fN v=>exact⟨_,s1,hK,CL.out hc (by simp)⟩
theorem aYE {β:Type}(hC:C.Ok)(hT:T.Ok C.P){dr:H7 β}(hdr:nN C dr){lp:dK β}{c:Code}(hlp:aC C lp (aJ c)){n:Nat}{s:AS}{K:AX→AS→Option β}{z:β}(h:aR4 C T dr lp c n s K=some z):∃ x s',K x s'=some z∧CA C (.loop c) s x s':=by
 obtain⟨x,s',h1,h2⟩:=aLy hC hT hdr hlp n s K z h;exact⟨x,s',h1,h2.loop⟩
end
section
variable {C:dI}{T:Tb}
theorem CA.bFv {c:Code}{s s1 s':AS}{ft:TypeId}{n:Int}(hc:CA C c s (.fN (cT ft n)) s1)(hp:M1 C.dB s1 s'):CA C c s (.fN (cT ft n)) s':=by
 intro R ρ a w hr ha hd;refine wp_mono (hc R ρ a w hr ha hd) fun q a' w' hf=>?_;obtain⟨h1,R',ρ',h2,h3,h4,u,he,hu⟩:=hf;obtain⟨R1,eN,r1,a1,f1⟩:=hp R' ρ' a' w' h2 h3;exact⟨h1,R1,eN,r1,a1,h4.trans f1,u,he,iH hu⟩
def QD {p:Nat}{X A B D:Type}(L:Lay p X)(E:kU p A B)(M:Lay p D)(ft:TypeId)(x:AX)(s:AS):Option (X⊕((A⊕B)⊕(Int×D))):=match x with
 | .fN v=>match vN ft v with
  | some e=>match M.dec s with
   | some d=>some (.inr (.inr (e,d)))
   | none=>none
  | none=>none
 | x=>match bG L E x s with
  | some (.inl x)=>some (.inl x)
  | some (.inr y)=>some (.inr (.inl y))
  | none=>none
theorem aBj {p:Nat}{X A B D:Type}{L:Lay p X}{E:kU p A B}{M:Lay p D}{ft:TypeId}{x:AX}{s:AS}{z:X⊕((A⊕B)⊕(Int×D))}(h:QD L E M ft x s=some z) :
  (∃ e d,x=.fN (cT ft e)∧M.dec s=some d∧z=.inr (.inr (e,d)))∨(∃ x',bG L E x s=some (.inl x')∧z=.inl x')∨∃ y,bG L E x s=some (.inr y)∧z=.inr (.inl y):=by
 unfold QD at h
 split at h
 ·split at h
  ·rename_i e hk
   split at h
   ·rename_i d hd;injection h with h
    exact .inl ⟨e,d,by rw [pN hk],hd,h.symm⟩
   ·cases h
  ·cases h
 ·split at h
  ·rename_i hk;injection h with h;exact .inr (.inl ⟨_,hk,h.symm⟩)
  ·rename_i hk;injection h with h;exact .inr (.inr ⟨_,hk,h.symm⟩)
  ·cases h
theorem aIS {p:Nat}{X A B:Type}{L:Lay p X}{E:kU p A B}{x:AX}{s:AS}{x':X}(h:bG L E x s=some (.inl x')):x=.normal∧L.dec s=some x':=by
 unfold bG at h
 split at h
 ·rename_i hx
  split at h
  ·rename_i hd;injection h with h;injection h with h;subst h;exact⟨AX.nS hx,hd⟩
  ·cases h
 ·split at h
  ·split at h <;> simp at h
  ·split at h
   ·split at h <;> simp at h
   ·cases h
theorem aO0 {p:Nat}{X A B:Type}{L:Lay p X}{E:kU p A B}{x:AX}{s:AS}{y:A⊕B}(h:bG L E x s=some (.inr y)):(∃ a,x=E.xa∧E.la.dec s=some a∧y=.inl a)∨∃ b,x=E.xb∧E.lb.dec s=some b∧y=.inr b:=by
 unfold bG at h
 split at h
 ·split at h <;> simp at h
 ·split at h
  ·rename_i hx
   split at h
   ·rename_i a hd;injection h with h;injection h with h;exact .inl ⟨a,AX.nS hx,hd,h.symm⟩
   ·cases h
  ·split at h
   ·rename_i hx
    split at h
    ·rename_i b hd;injection h with h;injection h with h;exact .inr ⟨b,AX.nS hx,hd,h.symm⟩
    ·cases h
   ·cases h
theorem DH (hC:C.Ok)(hT:T.Ok C.P){X A B D:Type}{dr:H7 (X⊕((A⊕B)⊕(Int×D)))}{lp:dK (X⊕((A⊕B)⊕(Int×D)))}(hdr:nN C dr){c:Code}(hlp:aC C lp (aJ c)){L:Lay C.dB X}{E:kU C.dB A B}{M:Lay C.dB D}{ft:TypeId}
  {G:X→Option (X⊕((A⊕B)⊕(Int×D)))} (hG:∀ x,aV C T dr lp c (L.enc x) (QD L E M ft)=G x) (hxa:E.xa.same .normal=false) (LU:E.xb.same .normal=false) (hpa:∀ v,E.xa≠.fN v) (hpb:∀ v,E.xb≠.fN v) :
  ∀ (n:Nat) (x:X) (y:(A⊕B)⊕(Int×D)),aH G n x=some y→CL C c (L.enc x) (Sum.elim (fun ab=>Sum.elim (fun _=>E.xa) (fun _=>E.xb) ab) (fun e=>.fN (cT ft e.1)) y) (Sum.elim (fun ab=>Sum.elim E.la.enc E.lb.enc ab) (fun e=>M.enc e.2) y)
 | 0,x,y,h=>by simp [aH] at h
 | n+1,x,y,h=>by
  simp only [aH] at h;obtain⟨z,hz,h⟩:=aXE.1 h;obtain⟨x',s',hK,hca⟩:=cV hC hT hdr c hlp _ _ z ((hG x).trans hz);rcases aBj hK with⟨e,d,rfl,hd,rfl⟩ | ⟨x2,hb,rfl⟩ | ⟨y2,hb,rfl⟩
  ·simp only [Sum.elim_inr,aJp] at h;subst h;exact CL.out (hca.bFv (M.ok _ _ hd)) (fun e=>by cases e)
  ·obtain⟨rfl,hd⟩:=aIS hb;exact CL.step hca ((DH hC hT hdr hlp hG hxa LU hpa hpb n x2 y h).pre (L.ok _ _ hd))
  ·simp only [Sum.elim_inr,aJp] at h;subst h;rcases aO0 hb with⟨a,rfl,hd,rfl⟩ | ⟨b,rfl,hd,rfl⟩
   ·exact CL.out (hca.YG hpa (E.la.ok _ _ hd)) (fun e=>by have e:E.xa=.normal:=e;rw [e] at hxa;cases hxa)
   ·exact CL.out (hca.YG hpb (E.lb.ok _ _ hd)) (fun e=>by have e:E.xb=.normal:=e;rw [e] at LU;cases LU)
def aBk {p:Nat}{X A B D β:Type}(L:Lay p X)(E:kU p A B)(M:Lay p D)(ft:TypeId)(F:X→Option ((A⊕B)⊕(Int×D)))(s:AS)(K:AX→AS→Option β):Option β:=match L.dec s with
 | some x=>(F x).bind fun y=>Sum.elim (fun ab=>Sum.elim (fun a=>K E.xa (E.la.enc a)) (fun b=>K E.xb (E.lb.enc b)) ab) (fun e=>K (.fN (cT ft e.1)) (M.enc e.2)) y
 | none=>none
theorem YW {X A B D β:Type}{L:Lay C.dB X}{E:kU C.dB A B}{M:Lay C.dB D}{ft:TypeId}{F:X→Option ((A⊕B)⊕(Int×D))}{c:Code}(hF:∀ x y,F x=some y→CL C c (L.enc x) (Sum.elim (fun ab=>Sum.elim (fun _=>E.xa) (fun _=>E.xb) ab) (fun e=>.fN (cT ft e.1)) y) (Sum.elim (fun ab=>Sum.elim E.la.enc E.lb.enc ab) (fun e=>M.enc e.2) y))
  {s:AS} {K:AX→AS→Option β} {z:β} (hx:aBk L E M ft F s K=some z):∃ x s',K x s'=some z∧CA C (.loop c) s x s':=by
 unfold aBk at hx
 split at hx
 ·rename_i x hd;obtain⟨y,hy,hx⟩:=aXE.1 hx;have h1:=((hF x y hy).pre (L.ok _ _ hd)).loop;cases y with
  | inl ab=>cases ab with
   | inl a=>exact⟨_,_,hx,h1⟩
   | inr b=>exact⟨_,_,hx,h1⟩
  | inr e=>exact⟨_,_,hx,h1⟩
 ·cases hx
structure YX where
 ft:TypeId
 dB:Nat
 cX:aF
 out:aF
 nX:aF
 F:cX.El→Option (out.El⊕(Int×nX.El))
def YX.Ok (P:Program)(g:FuncId)(e:YX):Prop:=
 (∀ x y,e.F x=some (.inl y)→∀ (R:Nat→Prop) (ρ:Nm) (w:World) (vs:Array Value),Rel R ρ (e.cX.enc x).h w→aK w R ρ (e.cX.enc x).r vs.toList →
  Calls P g vs w fun q w'=>∃ R' ρ' u,q=.returned u∧aI w' R' ρ' (eE (e.out.enc y).r) u∧Rel R' ρ' (e.out.enc y).h w'∧eF e.dB R ρ (e.cX.enc x).h w R' ρ' (e.out.enc y).h w') ∧
 ∀ x n,e.F x=some (.inr n)→∀ (R:Nat→Prop) (ρ:Nm) (w:World) (vs:Array Value),Rel R ρ (e.cX.enc x).h w→aK w R ρ (e.cX.enc x).r vs.toList →
  Calls P g vs w fun q w'=>∃ R' ρ' u,q=.panicked [{ v:=u,recovered:=false }]∧aI w' R' ρ' (cT e.ft n.1) u∧Rel R' ρ' (e.nX.enc n.2).h w'∧eF e.dB R ρ (e.cX.enc x).h w R' ρ' (e.nX.enc n.2).h w'
def aFh (C:dI)(ft:TypeId)(out nX:aF)(steps:List qO)(res:List ResultVar)(x:AX)(s:AS):Option (out.El⊕(Int×nX.El)):=match x with
 | .fN v=>match vN ft v with
  | some e=>match nX.dec C.dB ⟨[],s.h⟩ with
   | some d=>some (.inr (e,d))
   | none=>none
  | none=>none
 | x=>match aIQ C out steps res x s with
  | some y=>some (.inl y)
  | none=>none
theorem aO1 {ft:TypeId}{out nX:aF}{steps:List qO}{res:List ResultVar}{x:AX}{s:AS}{y:out.El}(h:aFh C ft out nX steps res x s=some (.inl y)):aIQ C out steps res x s=some y:=by
 unfold aFh at h
 split at h
 ·split at h
  ·split at h <;> simp at h
  ·cases h
 ·split at h
  ·rename_i hk;rw [hk];injection h with h;injection h with h;rw [h]
  ·cases h
theorem aO2 {ft:TypeId}{out nX:aF}{steps:List qO}{res:List ResultVar}{x:AX}{s:AS}{n:Int×nX.El}(h:aFh C ft out nX steps res x s=some (.inr n)):x=.fN (cT ft n.1)∧nX.dec C.dB ⟨[],s.h⟩=some n.2:=by
 unfold aFh at h
 split at h
 ·split at h
  ·rename_i e hk
   split at h
   ·rename_i d hd;injection h with h;injection h with h;subst h
    exact⟨by rw [pN hk],hd⟩
   ·cases h
  ·cases h
 ·split at h <;> simp at h
def aIT (C:dI)(T:Tb)(ft:TypeId)(cX out nX:aF)(steps:List qO)(dr:H7 (out.El⊕(Int×nX.El)))(lp:dK (out.El⊕(Int×nX.El)))(fn:Func)(c:Code)(x:cX.El):Option (out.El⊕(Int×nX.El)):=
 aV C T dr lp c ⟨(cX.enc x).r++List.replicate (fn.ntmps-(cX.enc x).r.length) .undef,(cX.enc x).h⟩ (aFh C ft out nX steps fn.results.toList)
theorem YY (hC:C.Ok)(hT:T.Ok C.P){ft:TypeId}{cX out nX:aF}{cN:List qO}{F:cX.El→Option (out.El⊕(Int×nX.El))}{dr:H7 (out.El⊕(Int×nX.El))}{lp:dK (out.El⊕(Int×nX.El))}(hdr:nN C dr){f:FuncId}{fn:Func}{c:Code}(hfn:C.P.funcs[f]?=some fn)(hb:fn.body=some c)(hlp:aC C lp (aJ c))
  (hF:∀ x,aIT C T ft cX out nX cN dr lp fn c x=F x):(YX.mk ft C.dB cX out nX F).Ok C.P f:=by
 refine⟨fun x y hxy R ρ w vs hr hvs=>?_,fun x n hxy R ρ w vs hr hvs=>?_⟩
 ·obtain⟨ex,s',hK,hca⟩:=cV hC hT hdr c hlp _ _ _ ((hF x).trans hxy);exact P9 hfn hb (aO1 hK) hca hr hvs
 ·obtain⟨ex,s',hK,hca⟩:=cV hC hT hdr c hlp _ _ _ ((hF x).trans hxy);obtain⟨rfl,hd⟩:=aO2 hK;have hsz:vs.size=(cX.enc x).r.length:=by have:=hvs.1;simpa using this
  have ha:b9 w R ρ ((cX.enc x).r++List.replicate (fn.ntmps-(cX.enc x).r.length) .undef) { tmps:=vs++Array.replicate (fn.ntmps-vs.size) undef,defers:=[] }:=by
   unfold b9;simp only [Array.toList_append,Array.toList_replicate,hsz];exact hvs.append (aK.replicate .undef _)
  refine calls_of_wp hfn hb ?_;refine wp_mono (hca R ρ _ w hr ha rfl) ?_;rintro e a' w' ⟨P7,R',ρ',hr',ha',f',u,rfl,hu⟩;obtain⟨R2,y7,r2,a2,f2⟩:=nX.ok C.dB _ _ hd R' ρ' { tmps:=#[],defers:=[] } w' hr' (by unfold b9;exact .nil);exact⟨P7,R2,y7,u,rfl,iH hu,r2,f'.trans f2⟩
end
def AX.np:AX→Bool
 | .fN _=>false
 | _=>true
def iI {β:Type}:dK β:=fun _ _ _=>none
theorem bAa {x:AX}(h:x.np=true):∀ v,x≠.fN v:=fun v e=>by subst e;cases h
def AX.fit (x:AX):Bool:=!x.same .normal&&x.np
theorem x7 {x:AX}(h:x.fit=true):x.same .normal=false∧∀ v,x≠.fN v:=by
 unfold AX.fit at h;rw [aKS,a1K] at h;exact⟨h.1,bAa h.2⟩
theorem NM {fn:Func}(h:fn.body.isSome=true):fn.body=some (fn.body.getD .skip):=by
 cases hb:fn.body with
 | none=>rw [hb] at h;cases h
 | some c=>rfl
def ex (p n:Nat)(A B:aF)(s t:List qO):kU p A.El B.El:=⟨.exit n,A.lay s,.ret,B.lay t⟩
abbrev l0 (n:Nat):aF:=⟨n,[],[],fun _=>[]⟩
section
variable {C:dI}{T:Tb}
theorem bC {β:Type}{c:Code}(h:aJ c=[]):aC C (iI (β:=β)) (aJ c):=by rw [h];exact aC.nil
theorem aC.is {β:Type}{lp:dK β}{c:Code}(l:List (Nat×Code))(h:aJ c=l)(k:aC C lp l):aC C lp (aJ c):=by rw [h];exact k
theorem iW (hC:C.Ok)(hT:T.Ok C.P){X A B β:Type}{lp:dK (X⊕(A⊕B))}{c:Code}(hlp:aC C lp (aJ c)){L:Lay C.dB X}{E:kU C.dB A B}{G:X→Option (X⊕(A⊕B))}
  (hG:∀ x,aV C T (cB C T) lp c (L.enc x) (bG L E)=G x) (hp:(E.xa.fit&&E.xb.fit)=true) {R:X→Option (A⊕B)} {n:Nat} (hR:R=aH G n)
  (s:AS) (K:AX→AS→Option β) (z:β) (hx:bO L E R s K=some z):∃ x s',K x s'=some z∧CA C (.loop c) s x s':=by
 subst hR;rw [aKS] at hp;exact pH (kC hC hT (eZ hC hT) hlp hG (x7 hp.1).1 (x7 hp.2).1 (x7 hp.1).2 (x7 hp.2).2 n) hx
theorem aFi (hC:C.Ok)(hT:T.Ok C.P){X A B β:Type}{lp:dK (X⊕((A⊕B)⊕Int))}{c:Code}(hlp:aC C lp (aJ c)){L:Lay C.dB X}{E:kU C.dB A B}{ft:TypeId}{m:Nat}{G:X→Option (X⊕((A⊕B)⊕Int))}
  (hG:∀ x,aV C T (cB C T) lp c (L.enc x) (nJ L E ft m)=G x) (hp:(E.xa.fit&&E.xb.fit)=true) {R:X→Option ((A⊕B)⊕Int)} {n:Nat} (hR:R=aH G n)
  (s:AS) (K:AX→AS→Option β) (z:β) (hx:pP L E ft m R s K=some z):∃ x s',K x s'=some z∧CA C (.loop c) s x s':=by
 subst hR;rw [aKS] at hp;exact aOZ (QC hC hT (eZ hC hT) hlp hG (x7 hp.1).1 (x7 hp.2).1 (x7 hp.1).2 (x7 hp.2).2 n) hx
theorem tri {α β γ:Type}{a a':α}{b b':β}{c c':γ}(h:(a,b,c)=(a',b',c')):a=a'∧b=b'∧c=c':=by cases h;exact⟨rfl,rfl,rfl⟩
theorem fn0 (hC:C.Ok)(hT:T.Ok C.P){g:FuncId}{ks:List FuncId}{e:FnE}(fn:Func)(h:(C.P.funcs[g]?,fn.body.isSome,aJ (fn.body.getD .skip))=(some fn,true,[]))
 (hF:∀ x,dA C T e.rs (cB C T) iI fn (fn.body.getD .skip) (bQ e.ps x)=e.F x):(aW.fn g ks e).Ok C.P:=aW.ofFn hC hT (tri h).1 (NM (tri h).2.1) (bC (tri h).2.2) hF
theorem bAb (hC:C.Ok)(hT:T.Ok C.P){g:FuncId}{ks:List FuncId}{e:aRo}(fn:Func)(h:(C.P.funcs[g]?,fn.body.isSome,aJ (fn.body.getD .skip))=(some fn,true,[]))
 (hF:∀ x,B7 C T e.bt e.t (cB C T) iI fn (fn.body.getD .skip) (bQ e.ps x)=e.F x):(aW.own g ks e).Ok C.P:=aW.LY hC hT (tri h).1 (NM (tri h).2.1) (bC (tri h).2.2) hF
theorem kO (hC:C.Ok)(hT:T.Ok C.P){g:FuncId}{ks:List FuncId}{e:M2}(fn:Func)(h:(C.P.funcs[g]?,fn.body.isSome,aJ (fn.body.getD .skip))=(some fn,true,[]))
 (hF:∀ x,aR1 C T e.ft e.rs (cB C T) iI fn (fn.body.getD .skip) (bQ e.ps x)=e.F x):(aW.e9 g ks e).Ok C.P:=aW.a99 hC hT (tri h).1 (NM (tri h).2.1) (bC (tri h).2.2) hF
theorem BV (hC:C.Ok)(hT:T.Ok C.P){cX out:aF}{steps:List qO}(cN:List qO){F:cX.El→Option out.El}{g:FuncId}{ks:List FuncId}(fn:Func)(h:(C.P.funcs[g]?,fn.body.isSome,aJ (fn.body.getD .skip))=(some fn,true,[]))
 (hF:∀ x,kE C T cX out cN (cB C T) iI fn (fn.body.getD .skip) x=F x):(aW.dV g ks ⟨C.dB,steps,cX,out,F⟩).Ok C.P:=aW.lI hC hT (tri h).1 (NM (tri h).2.1) (bC (tri h).2.2) hF
end
end Go.DI
