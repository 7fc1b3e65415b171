/- The plain law: what the typed functions answer: part 1 -/
import Derived.Test.YtadnnniccgdigaaGreatPfs2
set_option linter.unusedVariables false
set_option linter.unusedSimpArgs false
namespace Rv
theorem ob.{u,v} {α:Type u} {β:Type v} (a:α) (f:α→Option β):(some a).bind f=f a:=rfl
def Cg(p a b:Int):Prop:=∃m,a=b+p*m
theorem Cg.refl(p a:Int):Cg p a a:=⟨0,by simp⟩
theorem Cg.symm{p a b:Int}(h:Cg p a b):Cg p b a:=by
 obtain⟨m,rfl⟩:=h; exact⟨-m,by grind⟩
theorem Cg.trans{p a b c:Int}(h:Cg p a b)(k:Cg p b c):Cg p a c:=by
 obtain⟨m,rfl⟩:=h; obtain⟨n,rfl⟩:=k; exact⟨n+m,by grind⟩
theorem Cg.add{p a b c d:Int}(h:Cg p a b)(k:Cg p c d):Cg p (a+c) (b+d):=by
 obtain⟨m,rfl⟩:=h; obtain⟨n,rfl⟩:=k; exact⟨m+n,by grind⟩
theorem Cg.sub{p a b c d:Int}(h:Cg p a b)(k:Cg p c d):Cg p (a - c) (b - d):=by
 obtain⟨m,rfl⟩:=h; obtain⟨n,rfl⟩:=k; exact⟨m - n,by grind⟩
theorem Cg.mul{p a b c d:Int}(h:Cg p a b)(k:Cg p c d):Cg p (a*c) (b*d):=by
 obtain⟨m,rfl⟩:=h; obtain⟨n,rfl⟩:=k; exact⟨b*n+m*d+p*(m*n),by grind⟩
theorem Cg.mod(p a:Int):Cg p (a% p) a:=⟨-(a/p),by have:=Int.emod_add_mul_ediv a p; grind⟩
theorem Cg.eq{p a b:Int}(h:Cg p a b)(a0:0≤a)(a1:a < p)(b0:0≤b)(b1:b < p):a=b:=by
 obtain⟨m,hm⟩:=h;have:a% p=b% p:=by rw[hm,Int.add_mul_emod_self_left]
 rwa[vZ a0 a1,vZ b0 b1]at this
theorem Cg.emod{p a b:Int}(h:Cg p a b):a% p=b% p:=by
 obtain⟨m,rfl⟩:=h; rw[Int.add_mul_emod_self_left]
def nth(v:L1)(j:Nat):Int:=v.getD j 0
theorem zd{v:L1}{j:Nat}(h:j < v.length):nth v j=v[j]:=by simp[nth,h]
theorem nth_out{v:L1}{j:Nat}(h:v.length≤j):nth v j=0:=by simp[nth,h]
theorem nth_ext{u v:L1}(hl:u.length=v.length)(h:∀j,j < u.length→nth u j=nth v j):u=v:=by
 apply yX hl;intro j h1 h2;have:=h j h1
 rwa[zd h1,zd h2]at this
structure qP (p:Int) (w:Nat) (v:L1):Prop where
 len:v.length=w
 rng:∀j,j < w→0≤nth v j∧nth v j < p
theorem qP.ext{p:Int}{w:Nat}{u v:L1}(hu:qP p w u)(hv:qP p w v)(h:∀j,j < w→Cg p (nth u j) (nth v j)):u=v:=
 nth_ext (hu.len.trans hv.len.symm) fun j hj=> by
  rw[hu.len]at hj;exact(h j hj).eq (hu.rng j hj).1 (hu.rng j hj).2 (hv.rng j hj).1 (hv.rng j hj).2
def zv(w:Nat):L1:=List.replicate w 0
theorem zn(w j:Nat):nth (zv w) j=0:=by
 rcases vB j w with h|h
 ·simp[nth,zv,h]
 ·exact nth_out (by simpa[zv]using h)
theorem jc{p:Int}(hp:0 < p)(w:Nat):qP p w (zv w):=⟨by simp[zv],fun j _=> by rw[zn]; omega⟩
def subv(p:Int)(v u:L1)(k:Int):L1:=List.zipWith (fun a b=>(a - k*b)% p) v u
theorem zK{p:Int}{w:Nat}{v u:L1}{k:Int}(hv:v.length=w)(hu:u.length=w){j:Nat}(hj:j < w):nth (subv p v u k) j=(nth v j - k*nth u j)% p:=by
 have h1:j < (subv p v u k).length:=by simp[subv]; omega
 rw[zd h1,zd (show j < v.length by omega),zd (show j < u.length by omega)];simp[subv]
theorem zb{p:Int}{w:Nat}{v u:L1}{k:Int}(hv:v.length=w)(hu:u.length=w){j:Nat}(hj:j < w):Cg p (nth (subv p v u k) j) (nth v j - k*nth u j):=by
 rw[zK hv hu hj]; exact .mod _ _
theorem qU{p:Int}(hp:0 < p){w:Nat}{v u:L1}{k:Int}(hv:v.length=w)(hu:u.length=w):qP p w (subv p v u k):=
 ⟨by simp[subv,hv,hu],fun j hj=> by rw[zK hv hu hj]; exact⟨Int.emod_nonneg _ (by omega),Int.emod_lt_of_pos _ hp⟩⟩
inductive Sp (p:Int) (w:Nat) (R:aJ):L1→Prop
 |zero:Sp p w R (zv w)
 |sub {v r:L1} (k:Int):Sp p w R v→r∈R→Sp p w R (subv p v r k)
abbrev Rows(p:Int)(w:Nat)(R:aJ):Prop:=∀r∈R,qP p w r
section
variable {p:Int} {w:Nat} {R:aJ}
theorem Sp.ok(hp:0 < p)(hR:Rows p w R){v:L1}(h:Sp p w R v):qP p w v:=by
 induction h with
 |zero=> exact jc hp w
 |sub k _ hr ih=> exact qU hp ih.len (hR _ hr).len
theorem Sp.lin(hp:0 < p)(hR:Rows p w R){u v:L1}(hu:Sp p w R u)(hv:Sp p w R v)(k:Int):Sp p w R (subv p u v k):=by
 induction hv generalizing u k with
 |zero=>
  have hu':=hu.ok hp hR;have:subv p u (zv w) k=u:=(qU hp hu'.len (jc hp w).len).ext hu' fun j hj=>(zb hu'.len (jc hp w).len hj).trans (by rw[zn]; exact⟨0,by grind⟩);rw[this]; exact hu
 | @sub v r k' hv hr ih=>
  have hu':=hu.ok hp hR;have hv':=hv.ok hp hR;have hr':=hR _ hr;have h1:=ih hu k;have h1':=h1.ok hp hR;have:subv p u (subv p v r k') k=subv p (subv p u v k) r (-(k*k')):=(qU hp hu'.len (qU hp hv'.len hr'.len).len).ext (qU hp h1'.len hr'.len) fun j hj=> by
   refine(zb hu'.len (qU hp hv'.len hr'.len).len hj).trans (Cg.trans (.sub (.refl _ _) (.mul (.refl _ _) (zb hv'.len hr'.len hj))) (Cg.symm ((zb h1'.len hr'.len hj).trans (Cg.trans (.sub (zb hu'.len hv'.len hj) (.refl _ _)) ?_))));exact⟨0,by grind⟩
  rw[this];exact .sub _ h1 hr
theorem Sp.mem(hp:0 < p)(hR:Rows p w R){r:L1}(hr:r∈R):Sp p w R r:=by
 have h:=Sp.sub (-1) (Sp.zero (p:=p) (w:=w) (R:=R)) hr;have hr':=hR _ hr;have:subv p (zv w) r (-1)=r:=(qU hp (jc hp w).len hr'.len).ext hr' fun j hj=>(zb (jc hp w).len hr'.len hj).trans (by rw[zn]; exact⟨0,by grind⟩)
 rwa[this]at h
theorem Sp.scale(hp:0 < p)(hR:Rows p w R){v:L1}(hv:Sp p w R v)(k:Int):Sp p w R (subv p (zv w) v k):=Sp.lin hp hR .zero hv k
theorem Sp.into{T:aJ}(hp:0 < p)(hT:Rows p w T)(h:∀r∈R,Sp p w T r){v:L1}(hv:Sp p w R v):Sp p w T v:=by
 induction hv with
 |zero=> exact .zero
 |sub k _ hr ih=> exact Sp.lin hp hT ih (h _ hr) k
theorem Sp.mono{T:aJ}(h:∀r∈R,r∈T){v:L1}(hv:Sp p w R v):Sp p w T v:=by
 induction hv with
 |zero=> exact .zero
 |sub k _ hr ih=> exact .sub k ih (h _ hr)
theorem sub_back(hp:0 < p){v u:L1}(hv:qP p w v)(hu:qP p w u)(k:Int):subv p (subv p v u k) u (-k)=v:=
 (qU hp (qU hp hv.len hu.len).len hu.len).ext hv fun j hj=>(zb (qU hp hv.len hu.len).len hu.len hj).trans (Cg.trans (.sub (zb hv.len hu.len hj) (.refl _ _)) ⟨0,by grind⟩)
theorem sub_iff(hp:0 < p){T:aJ}(hT:Rows p w T){v u:L1}(hv:qP p w v)(hu:Sp p w T u)(k:Int):Sp p w T (subv p v u k)↔Sp p w T v:=
 ⟨fun h=> by have:=Sp.lin hp hT h hu (-k); rwa[sub_back hp hv (hu.ok hp hT)]at this,fun h=> Sp.lin hp hT h hu k⟩
end
def ld(r:L1):Nat:=r.findIdx (fun x=> x != 0)
theorem zL{r:L1}{j:Nat}(h:j < ld r):nth r j=0:=by
 have hj:j < r.length:=Nat.lt_of_lt_of_le h List.findIdx_le_length;have:=List.not_of_lt_findIdx h;rw[zd hj];simpa using this
theorem ld_ne{r:L1}(h:ld r < r.length):nth r (ld r)≠0:=by
 rw[zd h];have h':(r.findIdx fun x=> x != 0) < r.length:=h;have:=List.findIdx_getElem (w:=h');intro e;have e':r[r.findIdx fun x=> x != 0]=0:=e;rw[e']at this;simp at this
theorem ld_of{r:L1}{l:Nat}(h0:∀j,j < l→nth r j=0)(h1:nth r l≠0):ld r=l:=by
 have hl:l < r.length:=by
  rcases vB l r.length with h|h
  ·exact h
  ·exact absurd (nth_out h) h1
 rcases yR (ld r) l with h|h|h
 ·exact absurd (h0 _ h) (ld_ne (by omega))
 ·exact h
 ·exact absurd (zL h) h1
structure Red (p:Int) (w:Nat) (R:aJ):Prop where
 ok:Rows p w R
 one:∀r∈R,ld r < w∧nth r (ld r)=1
 ord:R.Pairwise fun r s=> ld r < ld s∧nth r (ld s)=0
def comb(R:aJ)(v:L1)(j:Nat):Int:=match R with
 | []=> 0
 |r::R=> nth v (ld r)*nth r j+comb R v j
theorem comb_zero{R:aJ}{v:L1}{j:Nat}(h:∀r∈R,nth v (ld r)=0∨nth r j=0):comb R v j=0:=by
 induction R with
 |nil=> rfl
 |cons r R ih=>
  unfold comb;rw[ih fun s hs=> h s (wI _ hs)];rcases h r wH with h|h <;> rw[h] <;> simp
theorem comb_lin{p:Int}{w:Nat}{v u:L1}{k:Int}(hv:v.length=w)(hu:u.length=w){j:Nat}:∀ {R:aJ},(∀r∈R,ld r < w)→Cg p (comb R (subv p v u k) j) (comb R v j - k*comb R u j)
 | [],_=>⟨0,by simp[comb]⟩
 |r::R,h=> by
  unfold comb;refine Cg.trans (.add (.mul (zb hv hu (h r wH)) (.refl _ _)) (comb_lin hv hu fun s hs=> h s (wI _ hs))) ⟨0,by grind⟩
theorem comb_self{p:Int}{w:Nat}{j:Nat}:∀ {R:aJ} (h:Red p w R) {s:L1} (hs:s∈R),comb R s j=nth s j
 |r::R,h,s,hs=> by
  have hp:=vP.1 h.ord;unfold comb;rcases vD.1 hs with rfl|hs
  ·rw[(h.one _ wH).2,comb_zero fun t ht=> .inl (hp.1 t ht).2]; simp
  ·rw[zL (hp.1 s hs).1,comb_self ⟨fun t ht=> h.ok t (wI _ ht),fun t ht=> h.one t (wI _ ht),hp.2⟩ hs]; simp
theorem Red.coord{p:Int}{w:Nat}{R:aJ}(hp:0 < p)(h:Red p w R){v:L1}(hv:Sp p w R v)(j:Nat)(hj:j < w):Cg p (nth v j) (comb R v j):=by
 induction hv with
 |zero=> rw[zn,comb_zero fun r _=> .inl (zn _ _)]; exact .refl _ _
 | @sub v r k hv hr ih=>
  have hv':=hv.ok hp h.ok;have hr':=h.ok _ hr;refine(zb hv'.len hr'.len hj).trans (Cg.trans (.sub ih (.refl _ _)) (Cg.symm ((comb_lin hv'.len hr'.len fun s hs=>(h.one s hs).1).trans ?_)));rw[comb_self h hr]; exact .refl _ _
theorem Red.lead{p:Int}{w:Nat}{R:aJ}(hp:0 < p)(h:Red p w R){v:L1}(hv:Sp p w R v)(hl:ld v < w):∃r∈R,ld r=ld v:=by
 refine vT fun hn=>?_;have hv':=hv.ok hp h.ok;have hc:=h.coord hp hv (ld v) hl;rw[comb_zero fun r hr=>?_]at hc
 ·have:=hc.eq (hv'.rng _ hl).1 (hv'.rng _ hl).2 (vV _) hp
  exact ld_ne (by rw[hv'.len]; exact hl) this
 ·rcases yR (ld r) (ld v)with q|q|q
  ·exact .inl (zL q)
  ·exact absurd ⟨r,hr,q⟩ hn
  ·exact .inr (zL q)
theorem sorted_eq:∀ {a b:List Nat},a.Pairwise (·< ·)→b.Pairwise (·< ·)→(∀x,x∈a↔x∈b)→a=b
 | [],[],_,_,_=> rfl
 | [],y::b,_,_,h=> by have:=(h y).2 wH; simp at this
 |x::a,[],_,_,h=> by have:=(h x).1 wH; simp at this
 |x::a,y::b,ha,hb,h=> by
  obtain⟨a1,a2⟩:=vP.1 ha;obtain⟨b1,b2⟩:=vP.1 hb;have e:x=y:=by
   rcases vD.1 ((h x).1 wH)with q|q
   ·exact q
   ·rcases vD.1 ((h y).2 wH)with q'|q'
    ·exact q'.symm
    ·have:=b1 x q; have:=a1 y q'; omega
  subst e;rw[sorted_eq a2 b2 fun z=>⟨fun hz=>?_,fun hz=>?_⟩]
  ·rcases vD.1 ((h z).1 (wI _ hz))with rfl|q
   ·exact absurd (a1 _ hz) (Nat.lt_irrefl _)
   ·exact q
  ·rcases vD.1 ((h z).2 (wI _ hz))with rfl|q
   ·exact absurd (b1 _ hz) (Nat.lt_irrefl _)
   ·exact q
theorem Red.leads{p:Int}{w:Nat}{R:aJ}(h:Red p w R):(R.map ld).Pairwise (·< ·):=by
 rw[List.pairwise_map];exact h.ord.imp fun q=> q.1
theorem Red.unique{p:Int}{w:Nat}{R S:aJ}(hp:0 < p)(hR:Red p w R)(hS:Red p w S)(h:∀v,Sp p w R v↔Sp p w S v):R=S:=by
 have hL:R.map ld=S.map ld:=sorted_eq hR.leads hS.leads fun x=> by
  constructor
  ·intro hx
   obtain⟨r,hr,rfl⟩:=wL.1 hx;obtain⟨s,hs,e⟩:=hS.lead hp ((h r).1 (.mem hp hR.ok hr)) (hR.one r hr).1;exact wL.2 ⟨s,hs,e⟩
  ·intro hx
   obtain⟨r,hr,rfl⟩:=wL.1 hx;obtain⟨s,hs,e⟩:=hR.lead hp ((h r).2 (.mem hp hS.ok hr)) (hS.one r hr).1;exact wL.2 ⟨s,hs,e⟩
 have hlen:R.length=S.length:=by have:=congrArg List.length hL; simpa using this
 apply yX hlen;intro i h1 h2;have hr:=wC h1;have hs:=wC h2;have r1:=hR.ok _ hr;have s1:=hS.ok _ hs;have ldq:∀k (a:k < R.length) (b:k < S.length),ld R[k]=ld S[k]:=fun k a b=> by
  have:(R.map ld)[k]'(by simpa using a)=(S.map ld)[k]'(by simpa using b):=by simp only[hL]
  simpa using this
 -- their difference
 have hd:Sp p w R (subv p R[i] S[i] 1):=Sp.lin hp hR.ok (.mem hp hR.ok hr) ((h _).2 (.mem hp hS.ok hs)) 1;have hdk:=hd.ok hp hR.ok;have val:∀ (T:aJ) (hT:Red p w T) (a b:Nat) (ha:a < T.length) (hb:b < T.length),nth T[a] (ld T[b])=if a=b then 1 else 0:=fun T hT a b ha hb=> by
  rcases yR a b with q|q|q
  ·rw[if_neg (by omega)]; exact(List.pairwise_iff_getElem.1 hT.ord a b ha hb q).2
  ·subst q; rw[if_pos rfl]; exact(hT.one _ (wC ha)).2
  ·rw[if_neg (by omega)]; exact zL (List.pairwise_iff_getElem.1 hT.ord b a hb ha q).1
 refine r1.ext s1 fun j hj=>?_;have hc:=hR.coord hp hd j hj;rw[comb_zero fun r hr'=> .inl ?_]at hc
 ·have:=(zb r1.len s1.len hj).symm.trans hc
  obtain⟨m,hm⟩:=this;exact⟨m,by grind⟩
 ·obtain⟨k,hk,rfl⟩:=wN hr'
  have hkw:=(hR.one _ (wC hk)).1;have e1:=val R hR i k h1 hk;have e2:=val S hS i k h2 (by omega);rw[←ldq k hk (by omega)]at e2;have hcg:=zb (p:=p) (k:=1) r1.len s1.len hkw;rw[e1,e2]at hcg;refine hcg.trans ⟨0,by grind⟩|>.eq (hdk.rng _ hkw).1 (hdk.rng _ hkw).2 (vV _) hp
end Rv
namespace Rv
section
variable {p:Int} {w:Nat}
theorem sub_zero(hp:0 < p){v u:L1}(hv:qP p w v)(hu:u.length=w):subv p v u 0=v:=
 (qU hp hv.len hu).ext hv fun j hj=>(zb hv.len hu hj).trans ⟨0,by grind⟩
def scl(p:Int)(v:L1)(k:Int):L1:=v.map fun x=> x*k% p
theorem scl_sub(hp:0 < p){v:L1}(hv:qP p w v)(k:Int):scl p v k=subv p (zv w) v (-k):=by
 have hl:(scl p v k).length=w:=by simp[scl,hv.len]
 refine nth_ext (hl.trans (qU hp (jc hp w).len hv.len).len.symm) fun j hj=>?_;rw[hl]at hj;rw[zK (jc hp w).len hv.len hj,zn,zd (by rw[hl]; exact hj),zd (show j < v.length by rw[hv.len]; exact hj)];simp only[scl,List.getElem_map]
 congr 1; grind
theorem nth_scl(hp:0 < p){v:L1}(hv:qP p w v)(k:Int){j:Nat}(hj:j < w):Cg p (nth (scl p v k) j) (nth v j*k):=by
 rw[scl_sub hp hv];exact(zb (jc hp w).len hv.len hj).trans (by rw[zn]; exact⟨0,by grind⟩)
theorem scl_ok(hp:0 < p){v:L1}(hv:qP p w v)(k:Int):qP p w (scl p v k):=by
 rw[scl_sub hp hv]; exact qU hp (jc hp w).len hv.len
theorem scl_back(hp:0 < p){v:L1}(hv:qP p w v){k m:Int}(hk:Cg p (m*k) 1):subv p (zv w) (scl p v k) (-m)=v:=
 (qU hp (jc hp w).len (scl_ok hp hv k).len).ext hv fun j hj=>(zb (jc hp w).len (scl_ok hp hv k).len hj).trans (by
  rw[zn];have h1:=Cg.mul (Cg.refl p m) (nth_scl hp hv k hj);have h2:=Cg.mul hk (Cg.refl p (nth v j));obtain⟨a,ha⟩:=h1;obtain⟨b,hb⟩:=h2;exact⟨a+b,by grind⟩)
def rest(p:Int)(R:aJ)(v:L1):L1:=R.foldl (fun v r=> subv p v r (nth v (ld r))) v
theorem jY(hp:0 < p):∀ {R:aJ} (hR:Rows p w R) {v:L1} (hv:qP p w v),qP p w (rest p R v)
 | [],_,v,hv=> hv
 |r::R,hR,v,hv=> jY hp (R:=R) (fun s hs=> hR s (wI _ hs)) (qU hp hv.len (hR r wH).len)
theorem xe(hp:0 < p){T:aJ}(hT:Rows p w T):∀ {R:aJ} (hR:Rows p w R) (h:∀r∈R,Sp p w T r) {v:L1} (hv:qP p w v),Sp p w T (rest p R v)↔Sp p w T v
 | [],_,_,v,hv=> vY
 |r::R,hR,h,v,hv=> by
  have h1:=xe hp hT (R:=R) (fun s hs=> hR s (wI _ hs)) (fun s hs=> h s (wI _ hs)) (qU hp hv.len (hR r wH).len (k:=nth v (ld r)));exact h1.trans (sub_iff hp hT hv (h r wH) _)
theorem rest_keep(hp:0 < p){j:Nat}(hj:j < w):∀ {R:aJ} (hR:Rows p w R) (h:∀r∈R,nth r j=0) {v:L1} (hv:qP p w v),nth v j=0→nth (rest p R v) j=0
 | [],_,_,v,hv,h0=> h0
 |r::R,hR,h,v,hv,h0=> by
  refine rest_keep hp hj (R:=R) (fun s hs=> hR s (wI _ hs)) (fun s hs=> h s (wI _ hs)) (qU hp hv.len (hR r wH).len) ?_;rw[zK hv.len (hR r wH).len hj,h0,h r wH]; simp
theorem rest_lead(hp:0 < p):∀ {R:aJ} (hR:Red p w R) {v:L1} (hv:qP p w v),∀r∈R,nth (rest p R v) (ld r)=0
 | [],_,v,hv,r,hr=> by cases hr
 |s::R,hR,v,hv,r,hr=> by
  obtain⟨o1,o2⟩:=vP.1 hR.ord;have hR':Red p w R:=⟨fun t ht=> hR.ok t (wI _ ht),fun t ht=> hR.one t (wI _ ht),o2⟩;have hs:=hR.ok s wH;have hv':qP p w (subv p v s (nth v (ld s))):=qU hp hv.len hs.len;rcases vD.1 hr with rfl|hr
  ·refine rest_keep hp (hR.one _ wH).1 hR'.ok (fun t ht=> zL (o1 t ht).1) hv' ?_
   rw[zK hv.len hs.len (hR.one _ wH).1,(hR.one _ wH).2]; simp
  ·exact rest_lead hp hR' hv' r hr
def insF(p:Int)(own:L1)(a:Nat)(o:L1):L1:=subv p o own (nth o a)
def ins(p:Int)(own:L1)(a:Nat):aJ→aJ
 | []=>[own]
 |o::out=> if a < ld o then own::insF p own a o::out.map (insF p own a)else insF p own a o::ins p own a out
theorem mem_ins{own:L1}{a:Nat}{x:L1}:∀ {out:aJ},x∈ins p own a out↔x=own∨∃o∈out,x=insF p own a o
 | []=> by simp[ins]
 |o::out=> by
  unfold ins;split
  ·simp only[vD,wL]
   constructor
   ·rintro(h|h|⟨q,h1,h2⟩)
    ·exact .inl h
    ·exact .inr ⟨o,.inl rfl,h⟩
    ·exact .inr ⟨q,.inr h1,h2.symm⟩
   ·rintro(h|⟨q,rfl|h1,h2⟩)
    ·exact .inl h
    ·exact .inr (.inl h2)
    ·exact .inr (.inr ⟨q,h1,h2.symm⟩)
  ·simp only[vD,mem_ins (out:=out)]
   constructor
   ·rintro(h|h|⟨q,h1,h2⟩)
    ·exact .inr ⟨o,.inl rfl,h⟩
    ·exact .inl h
    ·exact .inr ⟨q,.inr h1,h2⟩
   ·rintro(h|⟨q,rfl|h1,h2⟩)
    ·exact .inr (.inl h)
    ·exact .inl h2
    ·exact .inr (.inr ⟨q,h1,h2⟩)
structure New (p:Int) (w:Nat) (R:aJ) (own:L1) (a:Nat):Prop where
 ok:qP p w own
 lt:a < w
 z:∀j,j < a→nth own j=0
 one:nth own a=1
 zl:∀r∈R,nth own (ld r)=0
theorem New.ld{R:aJ}{own:L1}{a:Nat}(n:New p w R own a):Rv.ld own=a:=ld_of n.z (by rw[n.one]; decide)
theorem kA(hp:1 < p){R:aJ}{own:L1}{a:Nat}(hR:Red p w R)(n:New p w R own a){o:L1}(ho:o∈R):qP p w (insF p own a o)∧ld (insF p own a o)=ld o∧nth (insF p own a o) (ld o)=1∧nth (insF p own a o) a=0∧ld o≠a:=by
 have hok:=hR.ok o ho;have hone:=hR.one o ho;have hne:Rv.ld o≠a:=fun e=> by have:=n.zl o ho; rw[e,n.one]at this; cases this
 have h1:nth (insF p own a o) (Rv.ld o)=1:=by
  unfold insF;rw[zK hok.len n.ok.len hone.1,hone.2,n.zl o ho];simp only[Int.mul_zero,Int.sub_zero];exact vZ (by decide) hp
 refine⟨qU (by omega) hok.len n.ok.len,?_,h1,?_,hne⟩
 ·refine ld_of (fun j hj=>?_) (by rw[h1]; decide)
  have hjw:j < w:=by omega
  unfold insF;rw[zK hok.len n.ok.len hjw,zL hj];rcases Nat.lt_or_gt_of_ne hne with q|q
  ·rw[n.z j (by omega)]; simp
  ·rw[zL q]; simp
 ·unfold insF
  rw[zK hok.len n.ok.len n.lt,n.one]; simp
theorem insF_zero(hp:1 < p){R:aJ}{own:L1}{a:Nat}(hR:Red p w R)(n:New p w R own a){o s:L1}(ho:o∈R)(hs:s∈R)(h:nth o (ld s)=0):nth (insF p own a o) (ld s)=0:=by
 unfold insF;rw[zK (hR.ok o ho).len n.ok.len (hR.one s hs).1,h,n.zl s hs]; simp
theorem ins_ord(hp:1 < p){R:aJ}{own:L1}{a:Nat}(hR:Red p w R)(n:New p w R own a):∀ {out:aJ},(∀o∈out,o∈R)→out.Pairwise (fun r s=> ld r < ld s∧nth r (ld s)=0)→(ins p own a out).Pairwise fun r s=> ld r < ld s∧nth r (ld s)=0
 | [],_,_=> by simp[ins]
 |o::out,hm,ho=> by
  obtain⟨o1,o2⟩:=vP.1 ho;have hoR:=hm o wH;have hmap:∀ {l:aJ},(∀x∈l,x∈R)→l.Pairwise (fun r s=> Rv.ld r < Rv.ld s∧nth r (Rv.ld s)=0)→(l.map (insF p own a)).Pairwise fun r s=> Rv.ld r < Rv.ld s∧nth r (Rv.ld s)=0:=fun {l} hl hp'=> by
   rw[List.pairwise_map];refine hp'.imp_of_mem fun hr hs q=>?_;rw[(kA hp hR n (hl _ hr)).2.1,(kA hp hR n (hl _ hs)).2.1];exact⟨q.1,insF_zero hp hR n (hl _ hr) (hl _ hs) q.2⟩
  unfold ins;split
  ·rename_i ha
   rw[←vE];refine vP.2 ⟨fun x hx=>?_,hmap hm ho⟩;obtain⟨q,hq,rfl⟩:=wL.1 hx;rw[(kA hp hR n (hm q hq)).2.1,n.ld];refine⟨?_,n.zl q (hm q hq)⟩;rcases vD.1 hq with rfl|hq
   ·exact ha
   ·have:=(o1 q hq).1; omega
  ·rename_i ha
   have hf:=kA hp hR n hoR;refine vP.2 ⟨fun x hx=>?_,ins_ord hp hR n (fun q hq=> hm q (wI _ hq)) o2⟩;rw[hf.2.1];rcases mem_ins.1 hx with rfl|⟨q,hq,rfl⟩
   ·rw[n.ld]; exact⟨by have:=hf.2.2.2.2; omega,hf.2.2.2.1⟩
   ·have hqR:=hm q (wI _ hq)
    rw[(kA hp hR n hqR).2.1];exact⟨(o1 q hq).1,insF_zero hp hR n hoR hqR (o1 q hq).2⟩
theorem ins_red(hp:1 < p){R:aJ}{own:L1}{a:Nat}(hR:Red p w R)(n:New p w R own a):Red p w (ins p own a R):=by
 refine⟨fun x hx=>?_,fun x hx=>?_,ins_ord hp hR n (fun _ h=> h) hR.ord⟩
 ·rcases mem_ins.1 hx with rfl|⟨q,hq,rfl⟩
  ·exact n.ok
  ·exact(kA hp hR n hq).1
 ·rcases mem_ins.1 hx with rfl|⟨q,hq,rfl⟩
  ·rw[n.ld]; exact⟨n.lt,n.one⟩
  ·have h:=kA hp hR n hq
   rw[h.2.1]; exact⟨(hR.one q hq).1,h.2.2.1⟩
structure qT (p:Int) (w:Nat) (rows out:aJ):Prop where
 red:Red p w out
 sp:∀v,Sp p w out v↔Sp p w rows v
theorem qT.nil(p:Int)(w:Nat):qT p w [] []:=⟨⟨fun r h=>(nomatch h),fun r h=>(nomatch h),.nil⟩,fun v=> vY⟩
theorem qT.skip(hp:1 < p){rows out:aJ}{row:L1}(h:qT p w rows out)(hr:Rows p w rows)(hrow:qP p w row)(h0:∀j,j < w→nth (rest p out row) j=0):qT p w (rows++[row]) out:=by
 have hz:rest p out row=zv w:=(jY (by omega) h.red.ok hrow).ext (jc (by omega) w) fun j hj=> by rw[h0 j hj,zn]; exact .refl _ _
 have hin:Sp p w out row:=(xe (by omega) h.red.ok h.red.ok (fun r hr=> .mem (by omega) h.red.ok hr) hrow).1 (by rw[hz]; exact .zero);refine⟨h.red,fun v=>⟨fun hv=>((h.sp v).1 hv).mono fun r hr=> wT _ hr,fun hv=> hv.into (by omega) h.red.ok fun r hr'=>?_⟩⟩;rcases wG.1 hr' with q|q
 ·exact(h.sp r).2 (.mem (by omega) hr q)
 ·have:r=row:=by simpa using q
  rw[this]; exact hin
theorem qT.new(hp:1 < p){rows out:aJ}{row:L1}(h:qT p w rows out)(hrow:qP p w row){a:Nat}(ha:a < w)(hz:∀j,j < a→nth (rest p out row) j=0){k:Int}(hk:Cg p (nth (rest p out row) a*k) 1):
  New p w out (scl p (rest p out row) k) a:=by
 have aK:0 < p:=by omega
 have hrest:=jY aK h.red.ok hrow;have hown:=scl_ok aK hrest k;refine⟨hown,ha,fun j hj=>?_,?_,fun r hr'=>?_⟩
 ·have h1:=(nth_scl aK hrest k (show j < w by omega))
  rw[hz j hj]at h1;exact(h1.trans ⟨0,by grind⟩).eq (hown.rng _ (by omega)).1 (hown.rng _ (by omega)).2 (vV _) aK
 ·exact((nth_scl aK hrest k ha).trans hk).eq (hown.rng _ ha).1 (hown.rng _ ha).2 (by decide) hp
 ·have hl:=(h.red.one r hr').1
  have h1:=nth_scl aK hrest k hl;rw[rest_lead aK h.red hrow r hr']at h1;exact(h1.trans ⟨0,by grind⟩).eq (hown.rng _ hl).1 (hown.rng _ hl).2 (vV _) aK
theorem ins_len{own:L1}{a:Nat}:∀ {out:aJ},(ins p own a out).length=out.length+1
 | []=> rfl
 |o::out=> by
  unfold ins;split
  ·simp
  ·simp[ins_len (out:=out)]
theorem qT.put(hp:1 < p){rows out:aJ}{row:L1}(h:qT p w rows out)(hr:Rows p w rows)(hrow:qP p w row){a:Nat}(ha:a < w)(hz:∀j,j < a→nth (rest p out row) j=0){k:Int}(hk:Cg p (nth (rest p out row) a*k) 1):
  qT p w (rows++[row]) (ins p (scl p (rest p out row) k) a out):=by
 have aK:0 < p:=by omega
 have hrest:=jY aK h.red.ok hrow;have hown:=scl_ok aK hrest k;have n:New p w out (scl p (rest p out row) k) a:=h.new hp hrow ha hz hk;have hred:=ins_red hp h.red n;have hT:Rows p w (rows++[row]):=fun r hr'=> by
  rcases wG.1 hr' with q|q
  ·exact hr r q
  ·have:r=row:=by simpa using q
   rw[this]; exact hrow
 have hout:∀r∈out,Sp p w (rows++[row]) r:=fun r hr'=>((h.sp r).1 (.mem aK h.red.ok hr')).mono fun s hs=> wT _ hs;have hro:Sp p w (rows++[row]) (scl p (rest p out row) k):=by
  rw[scl_sub aK hrest];exact((xe aK hT h.red.ok hout hrow).2 (.mem aK hT (wS _ wH))).scale aK hT _
 have hown':Sp p w (ins p (scl p (rest p out row) k) a out) (scl p (rest p out row) k):= .mem aK hred.ok (mem_ins.2 (.inl rfl));have hback:∀r∈out,Sp p w (ins p (scl p (rest p out row) k) a out) r:=fun r hr'=> by
  have h1:Sp p w (ins p (scl p (rest p out row) k) a out) (insF p (scl p (rest p out row) k) a r):= .mem aK hred.ok (mem_ins.2 (.inr ⟨r,hr',rfl⟩));exact(sub_iff aK hred.ok (h.red.ok r hr') hown' _).1 h1
 refine⟨hred,fun v=>⟨fun hv=> hv.into aK hT fun r hr'=>?_,fun hv=> hv.into aK hred.ok fun r hr'=>?_⟩⟩
 ·rcases mem_ins.1 hr' with rfl|⟨o,ho,rfl⟩
  ·exact hro
  ·exact Sp.lin aK hT (hout o ho) hro _
 ·rcases wG.1 hr' with q|q
  ·exact((h.sp r).2 (.mem aK hr q)).into aK hred.ok hback
  ·have e:r=row:=by simpa using q
   rw[e];refine(xe aK hred.ok h.red.ok hback hrow).1 ?_;have:=hown'.scale aK hred.ok (-(nth (rest p out row) a))
   rwa[scl_back aK hrest hk]at this
end
end Rv
namespace Rv
def qE(l:aJ)(i:Nat):L1:=l.getD i []
theorem qX{l:aJ}{i:Nat}(h:i < l.length):qE l i=l[i]:=by simp[qE,h]
theorem xN{l:aJ}{r:L1}:r∈l↔∃i,i < l.length∧qE l i=r:=by
 constructor
 ·intro h
  obtain⟨i,hi,rfl⟩:=wN h;exact⟨i,hi,qX hi⟩
 ·rintro⟨i,hi,rfl⟩
  rw[qX hi]; exact wC hi
theorem zJ{l:aJ}{i:Nat}(h:i < l.length):qE l i∈l:=xN.2 ⟨i,h,rfl⟩
section
variable {p:Int} {w:Nat}
structure GInv (p:Int) (w:Nat) (rows:aJ) (c:Nat) (l:aJ) (d:Nat):Prop where
 ok:Rows p w l
 sp:∀v,Sp p w l v↔Sp p w rows v
 dn:d≤l.length
 cw:c≤w
 lead:∀k,k < d→ld (qE l k) < c∧nth (qE l k) (ld (qE l k))=1
 up:∀k m,k < m→m < d→ld (qE l k) < ld (qE l m)
 z1:∀i k,i < l.length→k < d→i≠k→nth (qE l i) (ld (qE l k))=0
 z2:∀i j,d≤i→i < l.length→j < c→nth (qE l i) j=0
theorem GInv.start{rows:aJ}(h:Rows p w rows):GInv p w rows 0 rows 0:=
 ⟨h,fun v=> vY,vS _,vS _,fun k hk=> absurd hk (yQ _),fun k m _ hk=> absurd hk (yQ _),fun i k _ hk=> absurd hk (yQ _),fun i j _ _ hj=> absurd hj (yQ _)⟩
theorem GInv.skip{rows l:aJ}{c d:Nat}(g:GInv p w rows c l d)(hc:c < w)(h:∀i,d≤i→i < l.length→nth (qE l i) c=0):GInv p w rows (c+1) l d:=
 ⟨g.ok,g.sp,g.dn,hc,fun k hk=>⟨Nat.lt_succ_of_lt (g.lead k hk).1,(g.lead k hk).2⟩,g.up,g.z1,fun i j h1 h2 h3=> by
  rcases vB j c with q|q
  ·exact g.z2 i j h1 h2 q
  ·have:j=c:=by omega
   subst this; exact h i h1 h2⟩
theorem GInv.done{rows l:aJ}{c d:Nat}(hp:1 < p)(g:GInv p w rows c l d)(h:c=w∨d=l.length):qT p w rows (l.take d):=by
 have aK:0 < p:=by omega
 have hdl:=g.dn;have hm:∀r,r∈l.take d↔∃i,i < d∧qE l i=r:=fun r=> by
  rw[xN];have hl:(l.take d).length=d:=by simp; omega
  rw[hl];constructor
  ·rintro⟨i,h1,h2⟩
   refine⟨i,h1,?_⟩;rw[qX (by omega)];rw[qX (by omega),List.getElem_take]at h2; exact h2
  ·rintro⟨i,h1,h2⟩
   refine⟨i,h1,?_⟩;rw[qX (by omega)]at h2;rw[qX (by omega),List.getElem_take]; exact h2
 have hok:Rows p w (l.take d):=fun r hr=> g.ok r (wP hr);refine⟨⟨hok,fun r hr=>?_,?_⟩,fun v=>(Iff.intro (fun hv=>?_) fun hv=>?_).trans (g.sp v)⟩
 ·obtain⟨i,hi,rfl⟩:=(hm r).1 hr
  have h1:=g.lead i hi;have h2:=g.cw;exact⟨by omega,h1.2⟩
 ·rw[List.pairwise_iff_getElem]
  intro i j h1 h2 hij;have e1:(l.take d)[i]=qE l i:=by rw[List.getElem_take,qX]
  have e2:(l.take d)[j]=qE l j:=by rw[List.getElem_take,qX]
  simp only[yG]at h1 h2;rw[e1,e2];exact⟨g.up i j hij (by omega),g.z1 i j (by omega) (by omega) (by omega)⟩
 ·exact hv.mono fun r hr=> wP hr
 ·refine hv.into aK hok fun r hr=>?_
  obtain⟨i,hi,rfl⟩:=xN.1 hr;rcases vB i d with q|q
  ·exact .mem aK hok ((hm _).2 ⟨i,q,rfl⟩)
  ·rcases h with h|h
   ·have hz:qE l i=zv w:=(g.ok _ hr).ext (jc aK w) fun j hj=> by rw[g.z2 i j q hi (by omega),zn]; exact .refl _ _
    rw[hz]; exact .zero
   ·omega
def jS(p:Int)(c d:Nat)(row:L1)(l:aJ):aJ:=(l.set d row).mapIdx fun i r=> if i=d then r else subv p r row (nth r c)
theorem gstep_len{c d:Nat}{row:L1}{l:aJ}:(jS p c d row l).length=l.length:=by simp[jS]
theorem gstep_at{c d:Nat}{row:L1}{l:aJ}(hd:d < l.length){i:Nat}(hi:i < l.length):qE (jS p c d row l) i=if i=d then row else subv p (qE l i) row (nth (qE l i) c):=by
 rw[qX (by rw[gstep_len]; exact hi),qX hi];simp only[jS,List.getElem_mapIdx];split
 ·rename_i e; subst e; simp
 ·rename_i e; rw[List.getElem_set_ne (yS e)]
theorem GInv.put{rows l l2:aJ}{c d j:Nat}{k:Int}(hp:1 < p)(g:GInv p w rows c l d)(hc:c < w)(hj:d≤j)(hjl:j < l.length)(hk:Cg p (nth (qE l j) c*k) 1)
  (ew:l2.length=l.length) (h2:∀i,i < l.length→qE l2 i=qE l (if i=j then d else if i=d then j else i)):GInv p w rows (c+1) (jS p c d (scl p (qE l j) k) l2) (d+1):=by
 have aK:0 < p:=by omega
 have hdl:d < l.length:=by omega
 have hrj:=g.ok _ (zJ hjl);have hrow:=scl_ok aK hrj k;generalize hR:scl p (qE l j) k=row at*
 -- the new row
 have zr:∀m,m < c→nth row m=0:=fun m hm=> by
  have h1:=nth_scl aK hrj k (show m < w by omega);rw[hR,g.z2 j m hj hjl hm]at h1;exact(h1.trans ⟨0,by grind⟩).eq (hrow.rng _ (by omega)).1 (hrow.rng _ (by omega)).2 (vV _) aK
 have or:nth row c=1:=by
  have h1:=nth_scl aK hrj k hc;rw[hR]at h1;exact(h1.trans hk).eq (hrow.rng _ hc).1 (hrow.rng _ hc).2 (by decide) hp
 have lr:ld row=c:=ld_of zr (by rw[or]; decide);have hL:(jS p c d row l2).length=l.length:=gstep_len.trans ew;have ha:∀i,i < l.length→qE (jS p c d row l2) i=if i=d then row else subv p (qE l2 i) row (nth (qE l2 i) c):=fun i hi=> gstep_at (by omega) (by omega)
 have i6:∀i,i < l.length→qP p w (qE l2 i):=fun i hi=> by
  rw[h2 i hi];refine g.ok _ (zJ ?_);split
  ·exact hdl
  ·split
   ·exact hjl
   ·exact hi
 have okn:Rows p w (jS p c d row l2):=fun r hr=> by
  obtain⟨i,hi,rfl⟩:=xN.1 hr;rw[hL]at hi;rw[ha i hi];split
  ·exact hrow
  ·exact qU aK (i6 i hi).len hrow.len
 -- rows of before keep what they have before c
 have keep:∀i m,i < l.length→i≠d→m < c→nth (qE (jS p c d row l2) i) m=nth (qE l2 i) m:=fun i m hi hid hm=> by
  have hr:=(i6 i hi).rng m (by omega);rw[ha i hi,if_neg hid,zK (i6 i hi).len hrow.len (by omega),zr m hm];simp only[Int.mul_zero,Int.sub_zero];exact vZ hr.1 hr.2
 have zc:∀i,i < l.length→i≠d→nth (qE (jS p c d row l2) i) c=0:=fun i hi hid=> by
  rw[ha i hi,if_neg hid,zK (i6 i hi).len hrow.len hc,or]; simp
 have lo:∀i,i < d→qE l2 i=qE l i:=fun i hi=> by rw[h2 i (by omega),if_neg (by omega),if_neg (by omega)]
 have ldk:∀i,i < d→ld (qE (jS p c d row l2) i)=ld (qE l i)∧nth (qE (jS p c d row l2) i) (ld (qE l i))=1:=fun i hi=> by
  have h1:=g.lead i hi;have e1:nth (qE (jS p c d row l2) i) (ld (qE l i))=1:=by rw[keep i _ (by omega) (by omega) h1.1,lo i hi,h1.2]
  refine⟨ld_of (fun m hm=>?_) (by rw[e1]; decide),e1⟩;rw[keep i m (by omega) (by omega) (by omega),lo i hi,zL hm]
 have rd:qE (jS p c d row l2) d=row:=by rw[ha d hdl,if_pos rfl]
 -- the space
 have hspR:Sp p w l row:=by rw[←hR,scl_sub aK hrj]; exact(Sp.mem aK g.ok (zJ hjl)).scale aK g.ok _
 have hspN:Sp p w (jS p c d row l2) row:=by
  have:=zJ (l:=jS p c d row l2) (i:=d) (by omega);rw[rd]at this;exact .mem aK okn this
 have back:∀i,i < l.length→i≠d→Sp p w (jS p c d row l2) (qE l2 i):=fun i hi hid=> by
  have:=zJ (l:=jS p c d row l2) (i:=i) (by omega);rw[ha i hi,if_neg hid]at this;exact(sub_iff aK okn (i6 i hi) hspN _).1 (.mem aK okn this)
 have backj:Sp p w (jS p c d row l2) (qE l j):=by
  have:=hspN.scale aK okn (-(nth (qE l j) c));rw[←hR,scl_back aK hrj hk]at this;rw[←hR]; exact this
 have hsw:∀i,i < l.length→∃m,m < l.length∧qE l2 m=qE l i:=fun i hi=> by
  by_cases e:i=j
  ·exact⟨d,hdl,by rw[h2 d hdl]; subst e; by_cases q:d=i <;> simp[q]⟩
  ·by_cases e2:i=d
   ·exact⟨j,hjl,by rw[h2 j hjl,if_pos rfl,e2]⟩
   ·exact⟨i,hi,by rw[h2 i hi,if_neg e,if_neg e2]⟩
 refine⟨okn,fun v=>(Iff.intro (fun hv=>?_) fun hv=>?_).trans (g.sp v),by omega,hc,fun k' hk'=>?_,fun k' m hkm hm=>?_,fun i k' hi hk' hne=>?_,fun i m h1 hi hm=>?_⟩
 ·refine hv.into aK g.ok fun r hr=>?_
  obtain⟨i,hi,rfl⟩:=xN.1 hr;rw[hL]at hi;rw[ha i hi];split
  ·exact hspR
  ·refine Sp.lin aK g.ok ?_ hspR _
   rw[h2 i hi];refine .mem aK g.ok (zJ ?_);split
   ·exact hdl
   ·exact hi
 ·refine hv.into aK okn fun r hr=>?_
  obtain⟨i,hi,rfl⟩:=xN.1 hr;by_cases e:i=j
  ·subst e; exact backj
  ·by_cases e2:i=d
   ·subst e2
    have:=back j hjl (fun q=> e q.symm)
    rwa[h2 j hjl,if_pos rfl]at this
   ·have:=back i hi e2
    rwa[h2 i hi,if_neg e,if_neg e2]at this
 ·rcases vB k' d with q|q
  ·have:=ldk k' q
   rw[this.1];exact⟨by have:=(g.lead k' q).1; omega,this.2⟩
  ·have:k'=d:=by omega
   subst this;rw[rd,lr]; exact⟨Nat.lt_succ_self _,or⟩
 ·rcases vB m d with q|q
  ·rw[(ldk k' (by omega)).1,(ldk m q).1]; exact g.up k' m hkm q
  ·have:m=d:=by omega
   subst this;rw[(ldk k' hkm).1,rd,lr]; exact(g.lead k' hkm).1
 ·rw[hL]at hi
  rcases vB k' d with q|q
  ·rw[(ldk k' q).1]
   have hlc:=(g.lead k' q).1;by_cases e:i=d
   ·subst e; rw[rd]; exact zr _ hlc
   ·rw[keep i _ hi e hlc,h2 i hi]
    split
    ·exact g.z1 d k' hdl q (by omega)
    ·exact g.z1 i k' hi q hne
  ·have:k'=d:=by omega
   subst this;rw[rd,lr]; exact zc i hi hne
 ·rw[hL]at hi
  rcases vB m c with q|q
  ·rw[keep i m hi (by omega) q,h2 i hi]
   split
   ·exact g.z2 d m (wE _) hdl q
   ·split
    ·omega
    ·exact g.z2 i m (by omega) hi q
  ·have:m=c:=by omega
   subst this;exact zc i hi (by omega)
end
theorem qT.same{p:Int}{w:Nat}(hp:1 < p){rows a b:aJ}(ha:qT p w rows a)(hb:qT p w rows b):a=b:=
 ha.red.unique (by omega) hb.red fun v=>(ha.sp v).trans (hb.sp v).symm
end Rv
namespace Rv
def jN(n i:Nat):L1:=(zv n).set i 1
theorem unitv_len(n i:Nat):(jN n i).length=n:=by simp[jN,zv]
theorem xC{n i j:Nat}(hi:i < n):nth (jN n i) j=if j=i then 1 else 0:=by
 rcases vB j n with hj|hj
 ·rw[zd (by rw[unitv_len]; exact hj)]
  unfold jN;rw[List.getElem_set];by_cases e:i=j
  ·subst e; rw[if_pos rfl,if_pos rfl]
  ·rw[if_neg e,if_neg (yS e)]; simp[zv]
 ·rw[nth_out (by rw[unitv_len]; exact hj),if_neg (by omega)]
def zy(n:Nat):aJ:=(List.range n).map (jN n)
theorem jO(n:Nat):(zy n).length=n:=by simp[zy]
section
variable {p:Int}
theorem unitv_ok(hp:1 < p){n i:Nat}(hi:i < n):qP p n (jN n i):=⟨unitv_len n i,fun j _=> by rw[xC hi]; split <;> omega⟩
theorem ld_unit{n i:Nat}(hi:i < n):ld (jN n i)=i:=ld_of (fun j hj=> by rw[xC hi,if_neg (by omega)]) (by rw[xC hi,if_pos rfl]; decide)
theorem zX(hp:1 < p)(n:Nat):Red p n (zy n):=by
 have hm:∀r,r∈zy n→∃i,i < n∧r=jN n i:=fun r hr=> by
  obtain⟨i,hi,rfl⟩:=wL.1 hr;exact⟨i,wV.1 hi,rfl⟩
 refine⟨fun r hr=>?_,fun r hr=>?_,?_⟩
 ·obtain⟨i,hi,rfl⟩:=hm r hr; exact unitv_ok hp hi
 ·obtain⟨i,hi,rfl⟩:=hm r hr
  rw[ld_unit hi,xC hi,if_pos rfl]; exact⟨hi,rfl⟩
 ·rw[List.pairwise_iff_getElem]
  intro i j h1 h2 hij;rw[jO]at h1 h2;have e1:(zy n)[i]'(by rw[jO]; exact h1)=jN n i:=by simp[zy]
  have e2:(zy n)[j]'(by rw[jO]; exact h2)=jN n j:=by simp[zy]
  rw[e1,e2,ld_unit h1,ld_unit h2,xC h1,if_neg (by omega)];exact⟨hij,rfl⟩
theorem xD(r:L1)(w j:Nat):nth (r.drop w) j=nth r (w+j):=by simp[nth]
theorem nth_app{r s:L1}{j:Nat}:nth (r++s) j=if j < r.length then nth r j else nth s (j - r.length):=by
 unfold nth;rw[gC,gC,gC];split
 ·rename_i h; rw[gB h]
 ·rename_i h; rw[gJ (Nat.le_of_not_lt h)]
def jm(w:Nat)(E:aJ):aJ:=(E.filter fun r=> decide (w≤ld r)).map (List.drop w)
theorem ld_drop{r:L1}{w:Nat}(h:w≤ld r)(hl:ld r < r.length):ld (r.drop w)=ld r - w:=ld_of (fun j hj=> by rw[xD]; exact zL (by omega)) (by rw[xD,show w+(ld r - w)=ld r by omega]; exact ld_ne hl)
theorem tails_red{w n:Nat}{E:aJ}(h:Red p (w+n) E):Red p n (jm w E):=by
 have hm:∀x,x∈jm w E→∃r∈E,w≤ld r∧x=r.drop w:=fun x hx=> by
  obtain⟨r,hr,rfl⟩:=wL.1 hx;obtain⟨h1,h2⟩:=uK.1 hr;exact⟨r,h1,by simpa using h2,rfl⟩
 refine⟨fun x hx=>?_,fun x hx=>?_,?_⟩
 ·obtain⟨r,hr,h1,rfl⟩:=hm x hx
  have hk:=h.ok r hr;exact⟨by rw[yW,hk.len]; omega,fun j hj=> by rw[xD]; exact hk.rng _ (by omega)⟩
 ·obtain⟨r,hr,h1,rfl⟩:=hm x hx
  have hk:=h.ok r hr;have ho:=h.one r hr;rw[ld_drop h1 (by rw[hk.len]; exact ho.1),xD,show w+(ld r - w)=ld r by omega];exact⟨by omega,ho.2⟩
 ·unfold jm
  rw[List.pairwise_map];refine(h.ord.sublist List.filter_sublist).imp_of_mem fun hr hs q=>?_;rename_i r s;obtain⟨r1,r2⟩:=uK.1 hr;obtain⟨s1,s2⟩:=uK.1 hs;have r2':w≤ld r:=by simpa using r2
  have v7:w≤ld s:=by simpa using s2
  rw[ld_drop r2' (by rw[(h.ok r r1).len]; exact(h.one r r1).1),ld_drop v7 (by rw[(h.ok s s1).len]; exact(h.one s s1).1),xD,show w+(ld s - w)=ld s by omega];exact⟨by omega,q.2⟩
theorem qT.self{w:Nat}{E:aJ}(h:Red p w E):qT p w E E:=⟨h,fun v=> vY⟩
def jG(n:Nat)(rows:aJ):aJ:=(List.range n).map fun i=> qE rows i++jN n i
theorem longs_len(n:Nat)(rows:aJ):(jG n rows).length=n:=by simp[jG]
theorem longs_at{n:Nat}{rows:aJ}{i:Nat}(h:i < (jG n rows).length):(jG n rows)[i]=qE rows i++jN n i:=by simp[jG]
theorem longs_ok(hp:1 < p){w:Nat}{rows:aJ}(h:Rows p w rows):Rows p (w+rows.length) (jG rows.length rows):=fun x hx=> by
 obtain⟨i,hi,rfl⟩:=wL.1 hx;have hi':=wV.1 hi;have hr:=h _ (zJ hi');have hu:=unitv_ok hp hi';refine⟨by rw[wM,hr.len,hu.len],fun j hj=>?_⟩;rw[nth_app,hr.len];split
 ·rename_i q; exact hr.rng j q
 ·exact hu.rng _ (by omega)
end
end Rv
namespace Rv
section
variable {p:Int} {w w':Nat}
structure Lin (p:Int) (w w':Nat) (φ:L1→L1):Prop where
 ok:∀u,qP p w u→qP p w' (φ u)
 sub:∀u v k,qP p w u→qP p w v→φ (subv p u v k)=subv p (φ u) (φ v) k
theorem sub_zv(hp:0 < p){w:Nat}:subv p (zv w) (zv w) 1=zv w:=
 (qU hp (jc hp w).len (jc hp w).len).ext (jc hp w) fun j hj=>(zb (jc hp w).len (jc hp w).len hj).trans (by rw[zn]; exact⟨0,by simp⟩)
theorem sub_self(hp:0 < p){w:Nat}{v:L1}(hv:qP p w v):subv p v v 1=zv w:=
 (qU hp hv.len hv.len).ext (jc hp w) fun j hj=>(zb hv.len hv.len hj).trans (by rw[zn]; exact⟨0,by grind⟩)
theorem Lin.zero(hp:0 < p){φ:L1→L1}(h:Lin p w w' φ):φ (zv w)=zv w':=by
 have h0:=jc hp w;have:=h.sub (zv w) (zv w) 1 h0 h0;rw[sub_zv hp,sub_self hp (h.ok _ h0)]at this;exact this
theorem Lin.rows{φ:L1→L1}(h:Lin p w w' φ){R:aJ}(hR:Rows p w R):Rows p w' (R.map φ):=fun r hr=> by
 obtain⟨s,hs,rfl⟩:=wL.1 hr;exact h.ok s (hR s hs)
theorem Lin.sp(hp:0 < p){φ:L1→L1}(h:Lin p w w' φ){R:aJ}(hR:Rows p w R){v:L1}(hv:Sp p w R v):Sp p w' (R.map φ) (φ v):=by
 induction hv with
 |zero=> rw[h.zero hp]; exact .zero
 | @sub v r k hv hr ih=>
  rw[h.sub v r k (hv.ok hp hR) (hR r hr)];exact .sub k ih (List.mem_map_of_mem hr)
theorem Lin.lift(hp:0 < p){φ:L1→L1}(h:Lin p w w' φ){R:aJ}(hR:Rows p w R){u:L1}(hu:Sp p w' (R.map φ) u):∃v,Sp p w R v∧φ v=u:=by
 induction hu with
 |zero=> exact⟨_,.zero,h.zero hp⟩
 | @sub u s k hu hs ih=>
  obtain⟨v,h1,rfl⟩:=ih;obtain⟨r,hr,rfl⟩:=wL.1 hs;exact⟨_,.sub k h1 hr,h.sub v r k (h1.ok hp hR) (hR r hr)⟩
theorem rest_lin(hp:0 < p):∀ {R:aJ} (hR:Rows p w R) (hl:∀r∈R,ld r < w),Lin p w w (rest p R)
 | [],_,_=>⟨fun u h=> h,fun u v k _ _=> rfl⟩
 |r::R,hR,hl=> by
  have hr:=hR r wH;have hlr:=hl r wH;have ih:=rest_lin hp (R:=R) (fun s hs=> hR s (wI _ hs)) (fun s hs=> hl s (wI _ hs));refine⟨fun u hu=> jY hp hR hu,fun u v k hu hv=>?_⟩;have h1:=qU hp hu.len hr.len (k:=nth u (ld r));have h2:=qU hp hv.len hr.len (k:=nth v (ld r));have h3:=qU hp hu.len hv.len (k:=k);have e:subv p (subv p u v k) r (nth (subv p u v k) (ld r))=subv p (subv p u r (nth u (ld r))) (subv p v r (nth v (ld r))) k:=by
   refine(qU hp h3.len hr.len).ext (qU hp h1.len h2.len) fun j hj=>?_;have c:=zb (p:=p) hu.len hv.len (k:=k) hlr;refine(zb h3.len hr.len hj).trans (Cg.trans (.sub (zb hu.len hv.len hj) (.mul c (.refl _ _))) (Cg.symm ((zb h1.len h2.len hj).trans (Cg.trans (.sub (zb hu.len hr.len hj) (.mul (.refl _ _) (zb hv.len hr.len hj))) ⟨0,by grind⟩))))
  show rest p R (subv p (subv p u v k) r (nth (subv p u v k) (ld r)))=subv p (rest p R (subv p u r (nth u (ld r)))) (rest p R (subv p v r (nth v (ld r)))) k;rw[e,ih.sub _ _ _ h1 h2]
theorem jx(hp:0 < p){R:aJ}(hR:Red p w R){v:L1}(hv:qP p w v):rest p R v=zv w↔Sp p w R v:=by
 have hb:=xe hp hR.ok hR.ok (fun r hr=> .mem hp hR.ok hr) hv;constructor
 ·intro e
  exact hb.1 (by rw[e]; exact .zero)
 ·intro h
  have h1:=hb.2 h;have h2:=jY hp hR.ok hv;refine h2.ext (jc hp w) fun j hj=>?_;have h3:=hR.coord hp h1 j hj;rw[comb_zero fun r hr=> .inl (rest_lead hp hR hv r hr)]at h3;rw[zn]; exact h3
theorem Lin.comp{w'':Nat}{φ ψ:L1→L1}(h:Lin p w w' φ)(k:Lin p w' w'' ψ):Lin p w w'' fun u=> ψ (φ u):=
 ⟨fun u hu=> k.ok _ (h.ok u hu),fun u v c hu hv=> by show ψ (φ (subv p u v c))=subv p (ψ (φ u)) (ψ (φ v)) c; rw[h.sub u v c hu hv,k.sub _ _ _ (h.ok u hu) (h.ok v hv)]⟩
def HasInv(p:Int):Prop:=∀a,0 < a→a < p→∃k,Cg p (a*k) 1
theorem ech_step(hp:1 < p)(hi:HasInv p){rows E:aJ}{v:L1}(h:qT p w rows E)(hr:Rows p w rows)(hv:qP p w v):
  ∃E',qT p w (rows++[v]) E'∧(Sp p w rows v→E'.length=E.length)∧(¬Sp p w rows v→E'.length=E.length+1):=by
 have aK:0 < p:=by omega
 have hrest:=jY aK h.red.ok hv;by_cases hz:Sp p w rows v
 ·have e:rest p E v=zv w:=(jx aK h.red hv).2 ((h.sp v).2 hz)
  exact⟨E,h.skip hp hr hv (fun j hj=> by rw[e,zn]),fun _=> rfl,fun q=> absurd hz q⟩
 ·have hne:¬∀j,j < w→nth (rest p E v) j=0:=fun q=> hz ((h.sp v).1 ((jx aK h.red hv).1 (hrest.ext (jc aK w) fun j hj=> by rw[q j hj,zn]; exact .refl _ _)))
  have hl:ld (rest p E v) < w:=by
   refine Nat.lt_of_not_le fun q=> hne fun j hj=> zL (by omega)
  have hnz:=ld_ne (r:=rest p E v) (by rw[hrest.len]; exact hl);have hrng:=hrest.rng _ hl;obtain⟨k,hk⟩:=hi (nth (rest p E v) (ld (rest p E v))) (by omega) hrng.2;exact⟨_,h.put hp hr hv hl (fun j hj=> zL hj) hk,fun q=> absurd q hz,fun _=> ins_len⟩
theorem rank_pair(hp:1 < p)(hi:HasInv p){A EA:aJ}(hA:Rows p w A)(hEA:qT p w A EA){α:Type}{Z:List α}{f g:α→L1}(hf:∀z∈Z,qP p w (f z))(hg:∀z∈Z,qP p w' (g z))
  (hiff:∀ (k:Nat) (hk:k < Z.length),Sp p w (A++(Z.take k).map f) (f Z[k])↔Sp p w' ((Z.take k).map g) (g Z[k])) {E E':aJ} (hE:qT p w (A++Z.map f) E) (hE':qT p w' (Z.map g) E'):E.length=EA.length+E'.length:=by
 have key:∀k,k≤Z.length→∃E E',qT p w (A++(Z.take k).map f) E∧qT p w' ((Z.take k).map g) E'∧E.length=EA.length+E'.length:=by
  intro k;induction k with
  |zero=> intro _; exact⟨EA,[],by simpa using hEA,by simpa using qT.nil p w',by simp⟩
  |succ k ih=>
   intro hk;obtain⟨E,E',h1,h2,h3⟩:=ih (by omega);have hz:=wC (show k < Z.length by omega);have r1:Rows p w (A++(Z.take k).map f):=fun r hr=> by
    rcases wG.1 hr with q|q
    ·exact hA r q
    ·obtain⟨z,hz,rfl⟩:=wL.1 q
     exact hf z (wP hz)
   have r2:Rows p w' ((Z.take k).map g):=fun r hr=> by
    obtain⟨z,hz,rfl⟩:=wL.1 hr;exact hg z (wP hz)
   obtain⟨F,f1,f2,f3⟩:=ech_step hp hi h1 r1 (hf _ hz);obtain⟨F',g1,g2,g3⟩:=ech_step hp hi h2 r2 (hg _ hz);have e1:(Z.take (k+1)).map f=(Z.take k).map f++[f Z[k]]:=by rw[←wW (show k < Z.length by omega),yI]; rfl
   have e2:(Z.take (k+1)).map g=(Z.take k).map g++[g Z[k]]:=by rw[←wW (show k < Z.length by omega),yI]; rfl
   refine⟨F,F',by rw[e1,←wO]; exact f1,by rw[e2]; exact g1,?_⟩;by_cases q:Sp p w (A++(Z.take k).map f) (f Z[k])
   ·rw[f2 q,g2 ((hiff k (by omega)).1 q),h3]
   ·rw[f3 q,g3 (fun c=> q ((hiff k (by omega)).2 c)),h3]; omega
 obtain⟨F,F',h1,h2,h3⟩:=key Z.length (wE _);rw[vH]at h1 h2;rw[hE.same hp h1,hE'.same hp h2,h3]
def sumI(f:Nat→Int):Nat→Int
 |0=> 0
 |n+1=> sumI f n+f n
theorem sumI_cg{f g:Nat→Int}:∀ {n:Nat},(∀i,i < n→Cg p (f i) (g i))→Cg p (sumI f n) (sumI g n)
 |0,_=> .refl _ _
 |n+1,h=> .add (sumI_cg fun i hi=> h i (by omega)) (h n (by omega))
theorem zw{f g:Nat→Int}{n:Nat}(h:∀i,i < n→f i=g i):sumI f n=sumI g n:=by
 induction n with
 |zero=> rfl
 |succ n ih=> unfold sumI; rw[ih fun i hi=> h i (by omega),h n (by omega)]
theorem sumI_zero{f:Nat→Int}{n:Nat}(h:∀i,i < n→f i=0):sumI f n=0:=by
 induction n with
 |zero=> rfl
 |succ n ih=> unfold sumI; rw[ih fun i hi=> h i (by omega),h n (by omega)]; rfl
theorem sumI_lin{f g:Nat→Int}{k:Int}:∀ {n:Nat},sumI (fun i=> f i - k*g i) n=sumI f n - k*sumI g n
 |0=> by simp[sumI]
 |n+1=> by unfold sumI; rw[sumI_lin (n:=n)]; grind
def dot(f:Nat→Int)(m:aJ)(n j:Nat):Int:=sumI (fun i=> f i*nth (qE m i) j) n
theorem dot_cg{f g:Nat→Int}{m:aJ}{n j:Nat}(h:∀i,i < n→Cg p (f i) (g i)):Cg p (dot f m n j) (dot g m n j):=sumI_cg fun i hi=> .mul (h i hi) (.refl _ _)
theorem dot_lin{f g:Nat→Int}{k:Int}{m:aJ}{n j:Nat}:dot (fun i=> f i - k*g i) m n j=dot f m n j - k*dot g m n j:=by
 unfold dot;rw[←sumI_lin];exact zw fun i _=> by grind
theorem dot_zero{f:Nat→Int}{m:aJ}{n j:Nat}(h:∀i,i < n→f i=0):dot f m n j=0:=sumI_zero fun i hi=> by rw[h i hi]; simp
theorem dot_unit{a:Nat}{m:aJ}{j:Nat}:∀ {n:Nat},a < n→dot (fun i=> if i=a then 1 else 0) m n j=nth (qE m a) j
 |n+1,h=> by
  unfold dot sumI;by_cases q:a=n
  ·subst q
   rw[sumI_zero fun i hi=> by simp only; rw[if_neg (by omega)]; simp];simp
  ·have:=dot_unit (m:=m) (j:=j) (n:=n) (a:=a) (by omega)
   unfold dot at this;rw[this];simp only;rw[if_neg (by omega)]; simp
structure Graph (p:Int) (w n:Nat) (rows:aJ) (u:L1):Prop where
 ok:qP p (w+n) u
 at_:∀j,j < w→Cg p (nth u j) (dot (fun i=> nth u (w+i)) rows n j)
theorem Graph.sub(hp:0 < p){n:Nat}{rows:aJ}{u v:L1}(hu:Graph p w n rows u)(hv:Graph p w n rows v)(k:Int):Graph p w n rows (subv p u v k):=by
 refine⟨qU hp hu.ok.len hv.ok.len,fun j hj=>?_⟩;refine(zb hu.ok.len hv.ok.len (by omega)).trans (Cg.trans (.sub (hu.at_ j hj) (.mul (.refl _ _) (hv.at_ j hj))) ?_);rw[←dot_lin];exact dot_cg fun i hi=>(zb hu.ok.len hv.ok.len (by omega)).symm
theorem Graph.zero(hp:0 < p){n:Nat}{rows:aJ}:Graph p w n rows (zv (w+n)):=
 ⟨jc hp _,fun j hj=> by rw[zn,dot_zero fun i _=> zn _ _]; exact .refl _ _⟩
theorem long_ok(hp:1 < p){rows:aJ}(h:Rows p w rows){i:Nat}(hi:i < rows.length):qP p (w+rows.length) (qE rows i++jN rows.length i)∧(∀j,j < w→nth (qE rows i++jN rows.length i) j=nth (qE rows i) j)∧∀j,nth (qE rows i++jN rows.length i) (w+j)=if j=i then 1 else 0:=by
 have hr:=h _ (zJ hi);have hm:qE rows i++jN rows.length i∈jG rows.length rows:=wL.2 ⟨i,wV.2 hi,rfl⟩;refine⟨longs_ok hp h _ hm,fun j hj=> by rw[nth_app,hr.len,if_pos hj],fun j=>?_⟩;rw[nth_app,hr.len,if_neg (by omega),show w+j - w=j by omega,xC hi]
theorem long_graph(hp:1 < p){rows:aJ}(h:Rows p w rows){i:Nat}(hi:i < rows.length):Graph p w rows.length rows (qE rows i++jN rows.length i):=by
 obtain⟨h1,h2,h3⟩:=long_ok hp h hi;refine⟨h1,fun j hj=>?_⟩;have e:dot (fun k=> nth (qE rows i++jN rows.length i) (w+k)) rows rows.length j=nth (qE rows i) j:=by
  rw[←dot_unit (m:=rows) (j:=j) hi];exact zw fun k _=> by simp only; rw[h3 k]
 rw[h2 j hj,e]; exact .refl _ _
theorem longs_sp(hp:1 < p){rows:aJ}(h:Rows p w rows){u:L1}:Sp p (w+rows.length) (jG rows.length rows) u↔Graph p w rows.length rows u:=by
 have aK:0 < p:=by omega
 have hL:=longs_ok hp h;constructor
 ·intro hu
  induction hu with
  |zero=> exact .zero aK
  | @sub v r k hv hr ih=>
   obtain⟨i,hi,rfl⟩:=wL.1 hr;exact ih.sub aK (long_graph hp h (wV.1 hi)) k
 ·have key:∀k,k≤rows.length→∀u,Graph p w rows.length rows u→(∀i,k≤i→i < rows.length→nth u (w+i)=0)→Sp p (w+rows.length) (jG rows.length rows) u:=by
   intro k;induction k with
   |zero=>
    intro _ u hu hz;have:u=zv (w+rows.length):=hu.ok.ext (jc aK _) fun j hj=> by
     rw[zn];by_cases q:j < w
     ·have:=hu.at_ j q
      rwa[dot_zero fun i hi=> hz i (by omega) hi]at this
     ·rw[show j=w+(j - w) by omega,hz (j - w) (by omega) (by omega)]; exact .refl _ _
    rw[this]; exact .zero
   |succ k ih=>
    intro hk u hu hz;obtain⟨h1,h2,h3⟩:=long_ok hp h (i:=k) (by omega);have hm:qE rows k++jN rows.length k∈jG rows.length rows:=wL.2 ⟨k,wV.2 (by omega),rfl⟩;have hg:=hu.sub aK (long_graph hp h (i:=k) (by omega)) (nth u (w+k));refine(sub_iff aK hL hu.ok (.mem aK hL hm) (nth u (w+k))).1 (ih (by omega) _ hg fun i hi1 hi2=>?_);rw[zK hu.ok.len h1.len (by omega),h3 i];by_cases q:i=k
    ·subst q; rw[if_pos rfl]; simp
    ·rw[if_neg q,hz i (by omega) hi2]; simp
  intro hu;exact key rows.length (wE _) u hu fun i h1 h2=> by omega
theorem rest_tails(hp:0 < p){w n:Nat}:∀ {E:aJ} (hE:Red p (w+n) E) {u:L1} (hu:qP p (w+n) u),(∀j,j < w→nth u j=0)→(rest p E u).drop w=rest p (jm w E) (u.drop w)
 | [],_,u,_,_=> rfl
 |r::E,hE,u,hu,hz=> by
  have hE':Red p (w+n) E:=⟨fun t ht=> hE.ok t (wI _ ht),fun t ht=> hE.one t (wI _ ht),(vP.1 hE.ord).2⟩;have hr:=hE.ok r wH;have hlr:=(hE.one r wH).1;have hs:=qU hp hu.len hr.len (k:=nth u (ld r));show(rest p E (subv p u r (nth u (ld r)))).drop w=_;by_cases q:w≤ld r
  ·have et:jm w (r::E)=r.drop w::jm w E:=by simp[jm,q]
   rw[et];have hz':∀j,j < w→nth (subv p u r (nth u (ld r))) j=0:=fun j hj=> by
    rw[zK hu.len hr.len (by omega),hz j hj,zL (r:=r) (j:=j) (by omega)]; simp
   rw[rest_tails hp hE' hs hz'];show _=rest p (jm w E) (subv p (u.drop w) (r.drop w) (nth (u.drop w) (ld (r.drop w))));rw[ld_drop q (by rw[hr.len]; exact hlr),xD,show w+(ld r - w)=ld r by omega]
   congr 1
   unfold subv;rw[List.drop_zipWith]
  ·have et:jm w (r::E)=jm w E:=by simp[jm,q]
   have e:subv p u r (nth u (ld r))=u:=by rw[hz _ (by omega)]; exact sub_zero hp hu hr.len
   rw[et,e];exact rest_tails hp hE' hu hz
theorem drop_zv(w n:Nat):(zv (w+n)).drop w=zv n:=by simp[zv]
theorem qP.drop{n:Nat}{u:L1}(hu:qP p (w+n) u):qP p n (u.drop w):=⟨by rw[yW,hu.len]; omega,fun j hj=> by rw[xD]; exact hu.rng _ (by omega)⟩
theorem kernel_sp(hp:1 < p){rows E:aJ}(h:Rows p w rows)(hE:qT p (w+rows.length) (jG rows.length rows) E){c:L1}:Sp p rows.length (jm w E) c↔qP p rows.length c∧∀j,j < w→Cg p (dot (nth c) rows rows.length j) 0:=by
 have aK:0 < p:=by omega
 have ht:=tails_red hE.red;constructor
 ·intro hc
  induction hc with
  |zero=> exact⟨jc aK _,fun j _=> by rw[dot_zero fun i _=> zn _ _]; exact .refl _ _⟩
  | @sub v r k hv hr ih=>
   have hr':=ht.ok r hr;refine⟨qU aK ih.1.len hr'.len,fun j hj=>?_⟩;obtain⟨s,hs,rfl⟩:=wL.1 hr;obtain⟨s1,s2⟩:=uK.1 hs;have v7:w≤ld s:=by simpa using s2
   have hg:=(longs_sp hp h).1 ((hE.sp s).1 (.mem aK hE.red.ok s1));have h1:=hg.at_ j hj;rw[zL (by omega)]at h1;have h2:Cg p (dot (nth (s.drop w)) rows rows.length j) 0:=by
    refine Cg.trans ?_ h1.symm;rw[show dot (nth (s.drop w)) rows rows.length j=dot (fun i=> nth s (w+i)) rows rows.length j from zw fun i _=> by rw[xD]];exact .refl _ _
   refine Cg.trans (dot_cg fun i hi=> zb ih.1.len hr'.len hi) ?_;rw[dot_lin];exact(Cg.sub (ih.2 j hj) (.mul (.refl _ k) h2)).trans ⟨0,by simp⟩
 ·rintro⟨hc,hd⟩
  have hu:Graph p w rows.length rows (zv w++c):=by
   have e:∀i,nth (zv w++c) (w+i)=nth c i:=fun i=> by rw[nth_app,show(zv w).length=w by simp[zv],if_neg (by omega),show w+i - w=i by omega]
   have e0:∀j,j < w→nth (zv w++c) j=0:=fun j hj=> by rw[nth_app,show(zv w).length=w by simp[zv],if_pos hj,zn]
   refine⟨⟨by rw[wM,hc.len]; simp[zv],fun j hj=>?_⟩,fun j hj=>?_⟩
   ·by_cases q:j < w
    ·rw[e0 j q]; omega
    ·rw[show j=w+(j - w) by omega,e]; exact hc.rng _ (by omega)
   ·rw[e0 j hj,show dot (fun i=> nth (zv w++c) (w+i)) rows rows.length j=dot (nth c) rows rows.length j from zw fun i _=> by simp only; rw[e]]
    exact(hd j hj).symm
  have hS:=(hE.sp _).2 ((longs_sp hp h).2 hu);have hz:=(jx aK hE.red hu.ok).2 hS;have e1:=rest_tails aK hE.red hu.ok fun j hj=> by rw[nth_app,show(zv w).length=w by simp[zv],if_pos hj,zn]
  have e2:(zv w++c).drop w=c:=by rw[List.drop_append_of_le_length (by simp[zv])]; simp[zv]
  rw[hz,drop_zv,e2]at e1;exact(jx aK ht hc).1 e1.symm
end
end Rv
namespace Rv
section
variable {p:Int} {w:Nat}
theorem Sp.split(hp:0 < p){A B:aJ}(hA:Rows p w A)(hB:Rows p w B){v:L1}(hv:Sp p w (A++B) v):∃a b,Sp p w A a∧Sp p w B b∧v=subv p a b (-1):=by
 have hz:=jc hp w;induction hv with
 |zero=> exact⟨_,_,.zero,.zero,(hz.ext (qU hp hz.len hz.len) fun j hj=>((zb hz.len hz.len hj).trans (by rw[zn]; exact⟨0,by simp⟩)).symm)⟩
 | @sub v r k hv hr ih=>
  obtain⟨a,b,ha,hb,rfl⟩:=ih;have ao:=ha.ok hp hA;have bo:=hb.ok hp hB;have so:=qU hp ao.len bo.len (k:= -1);rcases wG.1 hr with q|q
  ·have ro:=hA r q
   have aro:=qU hp ao.len ro.len (k:=k);refine⟨_,b,.sub k ha q,hb,(qU hp so.len ro.len).ext (qU hp aro.len bo.len) fun j hj=>?_⟩;refine(zb so.len ro.len hj).trans (Cg.trans (.sub (zb ao.len bo.len hj) (.refl _ _)) (Cg.symm ((zb aro.len bo.len hj).trans (Cg.trans (.sub (zb ao.len ro.len hj) (.refl _ _)) ⟨0,by grind⟩))))
  ·have ro:=hB r q
   have bro:=qU hp bo.len ro.len (k:=k);refine⟨a,_,ha,.sub k hb q,(qU hp so.len ro.len).ext (qU hp ao.len bro.len) fun j hj=>?_⟩;refine(zb so.len ro.len hj).trans (Cg.trans (.sub (zb ao.len bo.len hj) (.refl _ _)) (Cg.symm ((zb ao.len bro.len hj).trans (Cg.trans (.sub (.refl _ _) (.mul (.refl _ _) (zb bo.len ro.len hj))) ⟨0,by grind⟩))))
theorem rank_grow(hp:1 < p)(hi:HasInv p){A A' Z EA EA' E E':aJ}(hA:Rows p w A)(hA':Rows p w A')(hZ:Rows p w Z)(hEA:qT p w A EA)(hEA':qT p w A' EA')
  (hiff:∀ (k:Nat) (hk:k < Z.length),Sp p w (A++Z.take k) Z[k]↔Sp p w (A'++Z.take k) Z[k]) (hE:qT p w (A++Z) E) (hE':qT p w (A'++Z) E'):E.length+EA'.length=E'.length+EA.length:=by
 have key:∀k,k≤Z.length→∃E E',qT p w (A++Z.take k) E∧qT p w (A'++Z.take k) E'∧E.length+EA'.length=E'.length+EA.length:=by
  intro k;induction k with
  |zero=> intro _; exact⟨EA,EA',by simpa using hEA,by simpa using hEA',by omega⟩
  |succ k ih=>
   intro hk;obtain⟨E,E',h1,h2,h3⟩:=ih (by omega);have hz:=hZ _ (wC (show k < Z.length by omega));have rows:∀ {T:aJ},Rows p w T→Rows p w (T++Z.take k):=fun hT r hr=> by
    rcases wG.1 hr with q|q
    ·exact hT r q
    ·exact hZ r (wP q)
   obtain⟨F,f1,f2,f3⟩:=ech_step hp hi h1 (rows hA) hz;obtain⟨F',g1,g2,g3⟩:=ech_step hp hi h2 (rows hA') hz;have e1:Z.take (k+1)=Z.take k++[Z[k]]:=(wW (show k < Z.length by omega)).symm;refine⟨F,F',by rw[e1,←wO]; exact f1,by rw[e1,←wO]; exact g1,?_⟩;by_cases q:Sp p w (A++Z.take k) Z[k]
   ·rw[f2 q,g2 ((hiff k (by omega)).1 q),h3]
   ·rw[f3 q,g3 (fun c=> q ((hiff k (by omega)).2 c))]; omega
 obtain⟨F,F',h1,h2,h3⟩:=key Z.length (wE _);rw[vH]at h1 h2;rw[hE.same hp h1,hE'.same hp h2,h3]
theorem rank_mod(hp:1 < p)(hi:HasInv p){Y X B Z E1 E2 E3:aJ}(hY:Rows p w Y)(hX:Rows p w X)(hB:Rows p w B)(hZ:Red p w Z)
  (hYZ:∀v∈Y,Sp p w Z v) (hXZ:∀v∈X,Sp p w Z v) (hXB:∀v∈X,Sp p w B v) (hBX:∀v,Sp p w B v→Sp p w Z v→Sp p w X v)
  (h1:qT p w (Y++X) E1) (h2:qT p w (Y++B) E2) (h3:qT p w (Z++B) E3):Z.length+E2.length=E3.length+E1.length:=by
 have aK:0 < p:=by omega
 have app:∀ {S T:aJ},Rows p w S→Rows p w T→Rows p w (S++T):=fun hS hT r hr=> by
  rcases wG.1 hr with q|q
  ·exact hS r q
  ·exact hT r q
 have tk:∀k,Rows p w (Z.take k):=fun k r hr=> hZ.ok r (wP hr);have hYX:=app hY hX;have hYB:=app hY hB;have e4:qT p w ((Y++X)++Z) Z:=⟨hZ,fun v=>⟨fun h=> h.mono fun r hr=> wS _ hr,fun h=> h.into aK hZ.ok fun r hr=> by
  rcases wG.1 hr with q|q
  ·rcases wG.1 q with q|q
   ·exact hYZ r q
   ·exact hXZ r q
  ·exact .mem aK hZ.ok q⟩⟩
 have hZB:=app hZ.ok hB;have hYBZ:=app hYB hZ.ok;have e5:qT p w ((Y++B)++Z) E3:=⟨h3.red,fun v=>(h3.sp v).trans ⟨fun h=> h.mono fun r hr=> by
  rcases wG.1 hr with q|q
  ·exact wS _ q
  ·exact wT _ (wS _ q),fun h=> h.into aK hZB fun r hr=> by
  rcases wG.1 hr with q|q
  ·rcases wG.1 q with q|q
   ·exact(hYZ r q).mono fun s hs=> wT _ hs
   ·exact .mem aK hZB (wS _ q)
  ·exact .mem aK hZB (wT _ q)⟩⟩
 refine rank_grow hp hi hYX hYB hZ.ok h1 h2 (fun k hk=>?_) e4 e5;have hzk:=hZ.ok _ (wC hk);have r1:=app hYX (tk k);have r2:=app hYB (tk k);constructor
 ·refine fun h=> h.into aK r2 fun r hr=>?_
  rcases wG.1 hr with q|q
  ·rcases wG.1 q with q|q
   ·exact .mem aK r2 (wT _ (wT _ q))
   ·exact(hXB r q).mono fun s hs=> wT _ (wS _ hs)
  ·exact .mem aK r2 (wS _ q)
 ·intro h
  have h':Sp p w ((Y++Z.take k)++B) Z[k]:=h.mono fun r hr=> by
   simp only[wG]at hr ⊢;rcases hr with(q|q)|q
   ·exact .inl (.inl q)
   ·exact .inr q
   ·exact .inl (.inr q)
  obtain⟨a,b,ha,hb,he⟩:=Sp.split aK (app hY (tk k)) hB h';have ao:=ha.ok aK (app hY (tk k));have bo:=hb.ok aK hB;have haZ:Sp p w Z a:=ha.into aK hZ.ok fun r hr=> by
   rcases wG.1 hr with q|q
   ·exact hYZ r q
   ·exact .mem aK hZ.ok (wP q)
  have hbe:subv p Z[k] a 1=b:=by
   have so:=qU aK ao.len bo.len (k:= -1);refine(qU aK hzk.len ao.len).ext bo fun j hj=>(zb hzk.len ao.len hj).trans ?_;rw[he];exact Cg.trans (.sub (zb ao.len bo.len hj) (.refl _ _)) ⟨0,by grind⟩
  have hbZ:Sp p w Z b:=by
   rw[←hbe];exact Sp.lin aK hZ.ok (.mem aK hZ.ok (wC hk)) haZ 1
  have hbX:=hBX b hb hbZ;rw[he];refine Sp.lin aK r1 (ha.mono fun r hr=>?_) (hbX.mono fun r hr=> wT _ (wS _ hr)) (-1);rcases wG.1 hr with q|q
  ·exact wT _ (wT _ q)
  ·exact wS _ q
end
end Rv
namespace Rv
section
variable {p:Int} {w n:Nat}
theorem ech_len(hp:1 < p)(hi:HasInv p){L:aJ}(hL:Rows p w L):∃E,qT p w L E∧E.length≤L.length:=by
 have key:∀k,k≤L.length→∃E,qT p w (L.take k) E∧E.length≤k:=by
  intro k;induction k with
  |zero=> intro _; exact⟨[],by simpa using qT.nil p w,by simp⟩
  |succ k ih=>
   intro hk;obtain⟨E,h1,h2⟩:=ih (by omega);obtain⟨F,f1,f2,f3⟩:=ech_step hp hi h1 (fun r hr=> hL r (wP hr)) (hL _ (wC (show k < L.length by omega)));rw[wW]at f1;refine⟨F,f1,?_⟩;by_cases q:Sp p w (L.take k) L[k]
   ·rw[f2 q]; omega
   ·rw[f3 q]; omega
 obtain⟨E,h1,h2⟩:=key L.length (wE _);rw[vH]at h1;exact⟨E,h1,h2⟩
end
end Rv
namespace Rv
set_option maxRecDepth 10000
theorem rel_count{p:Int}{w w':Nat}(hp:1 < p)(hi:HasInv p){φ:L1→L1}(hφ:Lin p w w' φ){A N K E:aJ}(hA:Red p w' A)(hN:Red p w N)(hK:Red p w K)
  (hs:∀v,Sp p w K v↔Sp p w N v∧Sp p w' A (φ v)) (hE:qT p w' (A++N.map φ) E):E.length+K.length=A.length+N.length:=by
 have aK:0 < p:=by omega
 have app:∀ {w:Nat} {S T:aJ},Rows p w S→Rows p w T→Rows p w (S++T):=fun hS hT r hr=>(wG.1 hr).elim (hS r) (hT r);have hl:=rest_lin aK hA.ok fun r hr=>(hA.one r hr).1;have hψ:Lin p w w' fun u=> rest p A (φ u):=hφ.comp hl;have hψN:Rows p w' (N.map fun u=> rest p A (φ u)):=hψ.rows hN.ok;obtain⟨E',hE', -⟩:=ech_len hp hi hψN;have hKN:qT p w (K++N) N:=⟨hN,fun v=>⟨fun h=> h.mono fun r hr=> wS _ hr,fun h=> Sp.into aK hN.ok (fun r hr=>(wG.1 hr).elim (fun q=>((hs r).1 (.mem aK hK.ok q)).1) fun q=> .mem aK hN.ok q) h⟩⟩;have tk:∀k,Rows p w (N.take k):=fun k r hr=> hN.ok r (wP hr);have a:=rank_pair hp hi hK.ok (qT.self hK) (Z:=N) (f:=id) (g:=fun u=> rest p A (φ u)) (fun z hz=> hN.ok z hz) (fun z hz=> hψ.ok z (hN.ok z hz)) (fun k hk=> by
  have hv:=hN.ok _ (wC hk);have hKT:=app hK.ok (tk k);rw[List.map_id];show Sp p w (K++N.take k) N[k]↔_;constructor
  ·intro h
   have h':=hψ.sp aK hKT h;refine Sp.into aK (hψ.rows (tk k)) (fun r hr=>?_) h';obtain⟨b,hb,rfl⟩:=wL.1 hr;rcases wG.1 hb with q|q
   ·have:=((hs b).1 (.mem aK hK.ok q)).2
    rw[(jx aK hA (this.ok aK hA.ok)).2 this]; exact .zero
   ·exact .mem aK (hψ.rows (tk k)) (wL.2 ⟨b,q,rfl⟩)
  ·intro h
   obtain⟨u,hu,e⟩:=hψ.lift aK (tk k) h;have hu':Sp p w (K++N.take k) u:=hu.mono fun r hr=> wS _ hr;have huv:=hu.ok aK (tk k);have hd:Sp p w N (subv p N[k] u 1):=Sp.lin aK hN.ok (.mem aK hN.ok (wC hk)) (hu.mono fun r hr=> wP hr) 1;have hdv:=hd.ok aK hN.ok;have hz:rest p A (φ (subv p N[k] u 1))=zv w':=by
    have e2:=hψ.sub _ _ 1 hv huv;rw[e2,←e,sub_self aK (hψ.ok u huv)]
   have hin:Sp p w K (subv p N[k] u 1):=(hs _).2 ⟨hd,(jx aK hA (hφ.ok _ hdv)).1 hz⟩;have hin':Sp p w (K++N.take k) (subv p N[k] u 1):=hin.mono fun r hr=> wT _ hr;have hsum:=Sp.lin aK hKT hin' hu' (-1);have e3:subv p (subv p N[k] u 1) u (-1)=N[k]:=by
    refine qP.ext (hsum.ok aK hKT) hv fun j hj=>?_;have l1:=hv.len;have l2:=huv.len;have l3:=hdv.len;rw[zK l3 l2 hj,zK l1 l2 hj];refine Cg.trans (.mod _ _) (Cg.trans (Cg.sub (.mod _ _) (.refl _ _)) ?_);rw[show nth N[k] j - 1*nth u j - -1*nth u j=nth N[k] j by omega];exact .refl _ _
   rwa[e3]at hsum) (by rw[List.map_id]; exact hKN) hE'
 have b:=rank_pair hp hi hA.ok (qT.self hA) (Z:=N) (f:=φ) (g:=fun u=> rest p A (φ u)) (fun z hz=> hφ.ok z (hN.ok z hz)) (fun z hz=> hψ.ok z (hN.ok z hz)) (fun k hk=> by
  have hv:=hN.ok _ (wC hk);have hT:Rows p w' ((N.take k).map φ):=hφ.rows (tk k);have hAT:=app hA.ok hT;have e1:(N.take k).map (fun u=> rest p A (φ u))=((N.take k).map φ).map (rest p A):=by rw[List.map_map]; rfl
  rw[e1];constructor
  ·intro h
   have h':=hl.sp aK hAT h;refine Sp.into aK (hl.rows hT) (fun r hr=>?_) h';obtain⟨b,hb,rfl⟩:=wL.1 hr;rcases wG.1 hb with q|q
   ·rw[(jx aK hA (hA.ok b q)).2 (.mem aK hA.ok q)]; exact .zero
   ·exact .mem aK (hl.rows hT) (wL.2 ⟨b,q,rfl⟩)
  ·intro h
   obtain⟨u,hu,e⟩:=hl.lift aK hT h;have hAs:∀r∈A,Sp p w' (A++(N.take k).map φ) r:=fun r hr=> .mem aK hAT (wT _ hr);have hu':Sp p w' (A++(N.take k).map φ) u:=hu.mono fun r hr=> wS _ hr;refine(xe aK hAT hA.ok hAs (hφ.ok _ hv)).1 ?_;rw[←e];exact(xe aK hAT hA.ok hAs (hu.ok aK hT)).2 hu') hE hE'
 omega
end Rv
namespace Rv
set_option maxRecDepth 10000
end Rv
