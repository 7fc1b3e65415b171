/- The plain law: what the typed functions answer: part 1 -/
import Derived.Test.YtoejjfefmcbkpaaGreatHms2
set_option linter.unusedVariables false
set_option linter.unusedSimpArgs false
namespace Rv
theorem ob.{u,v} {α:Type u} {β:Type v} (a:α) (f:α→Option β):(some a).bind f=f a:=rfl
def Cg(p a b:Int):Prop:=∃m,a=b+p*m
theorem Cg.refl(p a:Int):Cg p a a:=⟨0,by simp⟩
theorem Cg.symm{p a b:Int}(h:Cg p a b):Cg p b a:=by
 obtain⟨m,rfl⟩:=h; exact⟨-m,by grind⟩
theorem Cg.trans{p a b c:Int}(h:Cg p a b)(k:Cg p b c):Cg p a c:=by
 obtain⟨m,rfl⟩:=h; obtain⟨n,rfl⟩:=k; exact⟨n+m,by grind⟩
theorem Cg.add{p a b c d:Int}(h:Cg p a b)(k:Cg p c d):Cg p (a+c) (b+d):=by
 obtain⟨m,rfl⟩:=h; obtain⟨n,rfl⟩:=k; exact⟨m+n,by grind⟩
theorem Cg.sub{p a b c d:Int}(h:Cg p a b)(k:Cg p c d):Cg p (a - c) (b - d):=by
 obtain⟨m,rfl⟩:=h; obtain⟨n,rfl⟩:=k; exact⟨m - n,by grind⟩
theorem Cg.mul{p a b c d:Int}(h:Cg p a b)(k:Cg p c d):Cg p (a*c) (b*d):=by
 obtain⟨m,rfl⟩:=h; obtain⟨n,rfl⟩:=k; exact⟨b*n+m*d+p*(m*n),by grind⟩
theorem Cg.mod(p a:Int):Cg p (a% p) a:=⟨-(a/p),by have:=Int.emod_add_mul_ediv a p; grind⟩
theorem Cg.eq{p a b:Int}(h:Cg p a b)(a0:0≤a)(a1:a < p)(b0:0≤b)(b1:b < p):a=b:=by
 obtain⟨m,hm⟩:=h;have:a% p=b% p:=by rw[hm,Int.add_mul_emod_self_left]
 rwa[Int.emod_eq_of_lt a0 a1,Int.emod_eq_of_lt b0 b1]at this
theorem Cg.emod{p a b:Int}(h:Cg p a b):a% p=b% p:=by
 obtain⟨m,rfl⟩:=h; rw[Int.add_mul_emod_self_left]
def nth(v:L1)(j:Nat):Int:=v.getD j 0
theorem qP{v:L1}{j:Nat}(h:j < v.length):nth v j=v[j]:=by simp[nth,h]
theorem nth_out{v:L1}{j:Nat}(h:v.length≤j):nth v j=0:=by simp[nth,h]
theorem nth_ext{u v:L1}(hl:u.length=v.length)(h:∀j,j < u.length→nth u j=nth v j):u=v:=by
 apply yO hl;intro j h1 h2;have:=h j h1
 rwa[qP h1,qP h2]at this
structure qD (p:Int) (w:Nat) (v:L1):Prop where
 len:v.length=w
 rng:∀j,j < w→0≤nth v j∧nth v j < p
theorem qD.ext{p:Int}{w:Nat}{u v:L1}(hu:qD p w u)(hv:qD p w v)(h:∀j,j < w→Cg p (nth u j) (nth v j)):u=v:=
 nth_ext (hu.len.trans hv.len.symm) fun j hj=> by
  rw[hu.len]at hj;exact(h j hj).eq (hu.rng j hj).1 (hu.rng j hj).2 (hv.rng j hj).1 (hv.rng j hj).2
def zv(w:Nat):L1:=List.replicate w 0
theorem zh(w j:Nat):nth (zv w) j=0:=by
 rcases wS j w with h|h
 ·simp[nth,zv,h]
 ·exact nth_out (by simpa[zv]using h)
theorem zj{p:Int}(hp:0 < p)(w:Nat):qD p w (zv w):=⟨by simp[zv],fun j _=> by rw[zh]; omega⟩
def subv(p:Int)(v u:L1)(k:Int):L1:=List.zipWith (fun a b=>(a - k*b)% p) v u
theorem zE{p:Int}{w:Nat}{v u:L1}{k:Int}(hv:v.length=w)(hu:u.length=w){j:Nat}(hj:j < w):nth (subv p v u k) j=(nth v j - k*nth u j)% p:=by
 have h1:j < (subv p v u k).length:=by simp[subv]; omega
 rw[qP h1,qP (show j < v.length by omega),qP (show j < u.length by omega)];simp[subv]
theorem qL{p:Int}{w:Nat}{v u:L1}{k:Int}(hv:v.length=w)(hu:u.length=w){j:Nat}(hj:j < w):Cg p (nth (subv p v u k) j) (nth v j - k*nth u j):=by
 rw[zE hv hu hj]; exact .mod _ _
theorem qB{p:Int}(hp:0 < p){w:Nat}{v u:L1}{k:Int}(hv:v.length=w)(hu:u.length=w):qD p w (subv p v u k):=
 ⟨by simp[subv,hv,hu],fun j hj=> by rw[zE hv hu hj]; exact⟨Int.emod_nonneg _ (by omega),Int.emod_lt_of_pos _ hp⟩⟩
inductive Sp (p:Int) (w:Nat) (R:L2):L1→Prop
 |zero:Sp p w R (zv w)
 |sub {v r:L1} (k:Int):Sp p w R v→r∈R→Sp p w R (subv p v r k)
abbrev Rows(p:Int)(w:Nat)(R:L2):Prop:=∀r∈R,qD p w r
section
variable {p:Int} {w:Nat} {R:L2}
theorem Sp.ok(hp:0 < p)(hR:Rows p w R){v:L1}(h:Sp p w R v):qD p w v:=by
 induction h with
 |zero=> exact zj hp w
 |sub k _ hr ih=> exact qB hp ih.len (hR _ hr).len
theorem Sp.lin(hp:0 < p)(hR:Rows p w R){u v:L1}(hu:Sp p w R u)(hv:Sp p w R v)(k:Int):Sp p w R (subv p u v k):=by
 induction hv generalizing u k with
 |zero=>
  have hu':=hu.ok hp hR;have:subv p u (zv w) k=u:=(qB hp hu'.len (zj hp w).len).ext hu' fun j hj=>(qL hu'.len (zj hp w).len hj).trans (by rw[zh]; exact⟨0,by grind⟩);rw[this]; exact hu
 | @sub v r k' hv hr ih=>
  have hu':=hu.ok hp hR;have hv':=hv.ok hp hR;have hr':=hR _ hr;have h1:=ih hu k;have h1':=h1.ok hp hR;have:subv p u (subv p v r k') k=subv p (subv p u v k) r (-(k*k')):=(qB hp hu'.len (qB hp hv'.len hr'.len).len).ext (qB hp h1'.len hr'.len) fun j hj=> by
   refine(qL hu'.len (qB hp hv'.len hr'.len).len hj).trans (Cg.trans (.sub (.refl _ _) (.mul (.refl _ _) (qL hv'.len hr'.len hj))) (Cg.symm ((qL h1'.len hr'.len hj).trans (Cg.trans (.sub (qL hu'.len hv'.len hj) (.refl _ _)) ?_))));exact⟨0,by grind⟩
  rw[this];exact .sub _ h1 hr
theorem Sp.mem(hp:0 < p)(hR:Rows p w R){r:L1}(hr:r∈R):Sp p w R r:=by
 have h:=Sp.sub (-1) (Sp.zero (p:=p) (w:=w) (R:=R)) hr;have hr':=hR _ hr;have:subv p (zv w) r (-1)=r:=(qB hp (zj hp w).len hr'.len).ext hr' fun j hj=>(qL (zj hp w).len hr'.len hj).trans (by rw[zh]; exact⟨0,by grind⟩)
 rwa[this]at h
theorem Sp.scale(hp:0 < p)(hR:Rows p w R){v:L1}(hv:Sp p w R v)(k:Int):Sp p w R (subv p (zv w) v k):=Sp.lin hp hR .zero hv k
theorem Sp.into{T:L2}(hp:0 < p)(hT:Rows p w T)(h:∀r∈R,Sp p w T r){v:L1}(hv:Sp p w R v):Sp p w T v:=by
 induction hv with
 |zero=> exact .zero
 |sub k _ hr ih=> exact Sp.lin hp hT ih (h _ hr) k
theorem Sp.mono{T:L2}(h:∀r∈R,r∈T){v:L1}(hv:Sp p w R v):Sp p w T v:=by
 induction hv with
 |zero=> exact .zero
 |sub k _ hr ih=> exact .sub k ih (h _ hr)
theorem sub_back(hp:0 < p){v u:L1}(hv:qD p w v)(hu:qD p w u)(k:Int):subv p (subv p v u k) u (-k)=v:=
 (qB hp (qB hp hv.len hu.len).len hu.len).ext hv fun j hj=>(qL (qB hp hv.len hu.len).len hu.len hj).trans (Cg.trans (.sub (qL hv.len hu.len hj) (.refl _ _)) ⟨0,by grind⟩)
theorem sub_iff(hp:0 < p){T:L2}(hT:Rows p w T){v u:L1}(hv:qD p w v)(hu:Sp p w T u)(k:Int):Sp p w T (subv p v u k)↔Sp p w T v:=
 ⟨fun h=> by have:=Sp.lin hp hT h hu (-k); rwa[sub_back hp hv (hu.ok hp hT)]at this,fun h=> Sp.lin hp hT h hu k⟩
end
def ld(r:L1):Nat:=r.findIdx (fun x=> x != 0)
theorem zp{r:L1}{j:Nat}(h:j < ld r):nth r j=0:=by
 have hj:j < r.length:=Nat.lt_of_lt_of_le h List.findIdx_le_length;have:=List.not_of_lt_findIdx h;rw[qP hj];simpa using this
theorem ld_ne{r:L1}(h:ld r < r.length):nth r (ld r)≠0:=by
 rw[qP h];have h':(r.findIdx fun x=> x != 0) < r.length:=h;have:=List.findIdx_getElem (w:=h');intro e;have e':r[r.findIdx fun x=> x != 0]=0:=e;rw[e']at this;simp at this
theorem ld_of{r:L1}{l:Nat}(h0:∀j,j < l→nth r j=0)(h1:nth r l≠0):ld r=l:=by
 have hl:l < r.length:=by
  rcases wS l r.length with h|h
  ·exact h
  ·exact absurd (nth_out h) h1
 rcases yJ (ld r) l with h|h|h
 ·exact absurd (h0 _ h) (ld_ne (by omega))
 ·exact h
 ·exact absurd (zp h) h1
structure Red (p:Int) (w:Nat) (R:L2):Prop where
 ok:Rows p w R
 one:∀r∈R,ld r < w∧nth r (ld r)=1
 ord:R.Pairwise fun r s=> ld r < ld s∧nth r (ld s)=0
def comb(R:L2)(v:L1)(j:Nat):Int:=match R with
 | []=> 0
 |r::R=> nth v (ld r)*nth r j+comb R v j
theorem comb_zero{R:L2}{v:L1}{j:Nat}(h:∀r∈R,nth v (ld r)=0∨nth r j=0):comb R v j=0:=by
 induction R with
 |nil=> rfl
 |cons r R ih=>
  unfold comb;rw[ih fun s hs=> h s (wI _ hs)];rcases h r wG with h|h <;> rw[h] <;> simp
theorem comb_lin{p:Int}{w:Nat}{v u:L1}{k:Int}(hv:v.length=w)(hu:u.length=w){j:Nat}:∀ {R:L2},(∀r∈R,ld r < w)→Cg p (comb R (subv p v u k) j) (comb R v j - k*comb R u j)
 | [],_=>⟨0,by simp[comb]⟩
 |r::R,h=> by
  unfold comb;refine Cg.trans (.add (.mul (qL hv hu (h r wG)) (.refl _ _)) (comb_lin hv hu fun s hs=> h s (wI _ hs))) ⟨0,by grind⟩
theorem comb_self{p:Int}{w:Nat}{j:Nat}:∀ {R:L2} (h:Red p w R) {s:L1} (hs:s∈R),comb R s j=nth s j
 |r::R,h,s,hs=> by
  have hp:=vG.1 h.ord;unfold comb;rcases vA.1 hs with rfl|hs
  ·rw[(h.one _ wG).2,comb_zero fun t ht=> .inl (hp.1 t ht).2]; simp
  ·rw[zp (hp.1 s hs).1,comb_self ⟨fun t ht=> h.ok t (wI _ ht),fun t ht=> h.one t (wI _ ht),hp.2⟩ hs]; simp
theorem Red.coord{p:Int}{w:Nat}{R:L2}(hp:0 < p)(h:Red p w R){v:L1}(hv:Sp p w R v)(j:Nat)(hj:j < w):Cg p (nth v j) (comb R v j):=by
 induction hv with
 |zero=> rw[zh,comb_zero fun r _=> .inl (zh _ _)]; exact .refl _ _
 | @sub v r k hv hr ih=>
  have hv':=hv.ok hp h.ok;have hr':=h.ok _ hr;refine(qL hv'.len hr'.len hj).trans (Cg.trans (.sub ih (.refl _ _)) (Cg.symm ((comb_lin hv'.len hr'.len fun s hs=>(h.one s hs).1).trans ?_)));rw[comb_self h hr]; exact .refl _ _
theorem Red.lead{p:Int}{w:Nat}{R:L2}(hp:0 < p)(h:Red p w R){v:L1}(hv:Sp p w R v)(hl:ld v < w):∃r∈R,ld r=ld v:=by
 refine vY fun hn=>?_;have hv':=hv.ok hp h.ok;have hc:=h.coord hp hv (ld v) hl;rw[comb_zero fun r hr=>?_]at hc
 ·have:=hc.eq (hv'.rng _ hl).1 (hv'.rng _ hl).2 (yE _) hp
  exact ld_ne (by rw[hv'.len]; exact hl) this
 ·rcases yJ (ld r) (ld v)with q|q|q
  ·exact .inl (zp q)
  ·exact absurd ⟨r,hr,q⟩ hn
  ·exact .inr (zp q)
theorem sorted_eq:∀ {a b:List Nat},a.Pairwise (·< ·)→b.Pairwise (·< ·)→(∀x,x∈a↔x∈b)→a=b
 | [],[],_,_,_=> rfl
 | [],y::b,_,_,h=> by have:=(h y).2 wG; simp at this
 |x::a,[],_,_,h=> by have:=(h x).1 wG; simp at this
 |x::a,y::b,ha,hb,h=> by
  obtain⟨a1,a2⟩:=vG.1 ha;obtain⟨b1,b2⟩:=vG.1 hb;have e:x=y:=by
   rcases vA.1 ((h x).1 wG)with q|q
   ·exact q
   ·rcases vA.1 ((h y).2 wG)with q'|q'
    ·exact q'.symm
    ·have:=b1 x q; have:=a1 y q'; omega
  subst e;rw[sorted_eq a2 b2 fun z=>⟨fun hz=>?_,fun hz=>?_⟩]
  ·rcases vA.1 ((h z).1 (wI _ hz))with rfl|q
   ·exact absurd (a1 _ hz) (Nat.lt_irrefl _)
   ·exact q
  ·rcases vA.1 ((h z).2 (wI _ hz))with rfl|q
   ·exact absurd (b1 _ hz) (Nat.lt_irrefl _)
   ·exact q
theorem Red.leads{p:Int}{w:Nat}{R:L2}(h:Red p w R):(R.map ld).Pairwise (·< ·):=by
 rw[List.pairwise_map];exact h.ord.imp fun q=> q.1
theorem Red.unique{p:Int}{w:Nat}{R S:L2}(hp:0 < p)(hR:Red p w R)(hS:Red p w S)(h:∀v,Sp p w R v↔Sp p w S v):R=S:=by
 have hL:R.map ld=S.map ld:=sorted_eq hR.leads hS.leads fun x=> by
  constructor
  ·intro hx
   obtain⟨r,hr,rfl⟩:=wQ.1 hx;obtain⟨s,hs,e⟩:=hS.lead hp ((h r).1 (.mem hp hR.ok hr)) (hR.one r hr).1;exact wQ.2 ⟨s,hs,e⟩
  ·intro hx
   obtain⟨r,hr,rfl⟩:=wQ.1 hx;obtain⟨s,hs,e⟩:=hR.lead hp ((h r).2 (.mem hp hS.ok hr)) (hS.one r hr).1;exact wQ.2 ⟨s,hs,e⟩
 have hlen:R.length=S.length:=by have:=congrArg List.length hL; simpa using this
 apply yO hlen;intro i h1 h2;have hr:=wC h1;have hs:=wC h2;have r1:=hR.ok _ hr;have s1:=hS.ok _ hs;have ldq:∀k (a:k < R.length) (b:k < S.length),ld R[k]=ld S[k]:=fun k a b=> by
  have:(R.map ld)[k]'(by simpa using a)=(S.map ld)[k]'(by simpa using b):=by simp only[hL]
  simpa using this
 -- their difference
 have hd:Sp p w R (subv p R[i] S[i] 1):=Sp.lin hp hR.ok (.mem hp hR.ok hr) ((h _).2 (.mem hp hS.ok hs)) 1;have hdk:=hd.ok hp hR.ok;have val:∀ (T:L2) (hT:Red p w T) (a b:Nat) (ha:a < T.length) (hb:b < T.length),nth T[a] (ld T[b])=if a=b then 1 else 0:=fun T hT a b ha hb=> by
  rcases yJ a b with q|q|q
  ·rw[if_neg (by omega)]; exact(List.pairwise_iff_getElem.1 hT.ord a b ha hb q).2
  ·subst q; rw[if_pos rfl]; exact(hT.one _ (wC ha)).2
  ·rw[if_neg (by omega)]; exact zp (List.pairwise_iff_getElem.1 hT.ord b a hb ha q).1
 refine r1.ext s1 fun j hj=>?_;have hc:=hR.coord hp hd j hj;rw[comb_zero fun r hr'=> .inl ?_]at hc
 ·have:=(qL r1.len s1.len hj).symm.trans hc
  obtain⟨m,hm⟩:=this;exact⟨m,by grind⟩
 ·obtain⟨k,hk,rfl⟩:=wK hr'
  have hkw:=(hR.one _ (wC hk)).1;have e1:=val R hR i k h1 hk;have e2:=val S hS i k h2 (by omega);rw[←ldq k hk (by omega)]at e2;have hcg:=qL (p:=p) (k:=1) r1.len s1.len hkw;rw[e1,e2]at hcg;refine hcg.trans ⟨0,by grind⟩|>.eq (hdk.rng _ hkw).1 (hdk.rng _ hkw).2 (yE _) hp
end Rv
namespace Rv
section
variable {p:Int} {w:Nat}
theorem sub_zero(hp:0 < p){v u:L1}(hv:qD p w v)(hu:u.length=w):subv p v u 0=v:=
 (qB hp hv.len hu).ext hv fun j hj=>(qL hv.len hu hj).trans ⟨0,by grind⟩
def scl(p:Int)(v:L1)(k:Int):L1:=v.map fun x=> x*k% p
theorem scl_sub(hp:0 < p){v:L1}(hv:qD p w v)(k:Int):scl p v k=subv p (zv w) v (-k):=by
 have hl:(scl p v k).length=w:=by simp[scl,hv.len]
 refine nth_ext (hl.trans (qB hp (zj hp w).len hv.len).len.symm) fun j hj=>?_;rw[hl]at hj;rw[zE (zj hp w).len hv.len hj,zh,qP (by rw[hl]; exact hj),qP (show j < v.length by rw[hv.len]; exact hj)];simp only[scl,List.getElem_map]
 congr 1; grind
theorem nth_scl(hp:0 < p){v:L1}(hv:qD p w v)(k:Int){j:Nat}(hj:j < w):Cg p (nth (scl p v k) j) (nth v j*k):=by
 rw[scl_sub hp hv];exact(qL (zj hp w).len hv.len hj).trans (by rw[zh]; exact⟨0,by grind⟩)
theorem scl_ok(hp:0 < p){v:L1}(hv:qD p w v)(k:Int):qD p w (scl p v k):=by
 rw[scl_sub hp hv]; exact qB hp (zj hp w).len hv.len
theorem scl_back(hp:0 < p){v:L1}(hv:qD p w v){k m:Int}(hk:Cg p (m*k) 1):subv p (zv w) (scl p v k) (-m)=v:=
 (qB hp (zj hp w).len (scl_ok hp hv k).len).ext hv fun j hj=>(qL (zj hp w).len (scl_ok hp hv k).len hj).trans (by
  rw[zh];have h1:=Cg.mul (Cg.refl p m) (nth_scl hp hv k hj);have h2:=Cg.mul hk (Cg.refl p (nth v j));obtain⟨a,ha⟩:=h1;obtain⟨b,hb⟩:=h2;exact⟨a+b,by grind⟩)
def rest(p:Int)(R:L2)(v:L1):L1:=R.foldl (fun v r=> subv p v r (nth v (ld r))) v
theorem jQ(hp:0 < p):∀ {R:L2} (hR:Rows p w R) {v:L1} (hv:qD p w v),qD p w (rest p R v)
 | [],_,v,hv=> hv
 |r::R,hR,v,hv=> jQ hp (R:=R) (fun s hs=> hR s (wI _ hs)) (qB hp hv.len (hR r wG).len)
theorem rest_iff(hp:0 < p){T:L2}(hT:Rows p w T):∀ {R:L2} (hR:Rows p w R) (h:∀r∈R,Sp p w T r) {v:L1} (hv:qD p w v),Sp p w T (rest p R v)↔Sp p w T v
 | [],_,_,v,hv=> yA
 |r::R,hR,h,v,hv=> by
  have h1:=rest_iff hp hT (R:=R) (fun s hs=> hR s (wI _ hs)) (fun s hs=> h s (wI _ hs)) (qB hp hv.len (hR r wG).len (k:=nth v (ld r)));exact h1.trans (sub_iff hp hT hv (h r wG) _)
theorem rest_keep(hp:0 < p){j:Nat}(hj:j < w):∀ {R:L2} (hR:Rows p w R) (h:∀r∈R,nth r j=0) {v:L1} (hv:qD p w v),nth v j=0→nth (rest p R v) j=0
 | [],_,_,v,hv,h0=> h0
 |r::R,hR,h,v,hv,h0=> by
  refine rest_keep hp hj (R:=R) (fun s hs=> hR s (wI _ hs)) (fun s hs=> h s (wI _ hs)) (qB hp hv.len (hR r wG).len) ?_;rw[zE hv.len (hR r wG).len hj,h0,h r wG]; simp
theorem rest_lead(hp:0 < p):∀ {R:L2} (hR:Red p w R) {v:L1} (hv:qD p w v),∀r∈R,nth (rest p R v) (ld r)=0
 | [],_,v,hv,r,hr=> by cases hr
 |s::R,hR,v,hv,r,hr=> by
  obtain⟨o1,o2⟩:=vG.1 hR.ord;have hR':Red p w R:=⟨fun t ht=> hR.ok t (wI _ ht),fun t ht=> hR.one t (wI _ ht),o2⟩;have hs:=hR.ok s wG;have hv':qD p w (subv p v s (nth v (ld s))):=qB hp hv.len hs.len;rcases vA.1 hr with rfl|hr
  ·refine rest_keep hp (hR.one _ wG).1 hR'.ok (fun t ht=> zp (o1 t ht).1) hv' ?_
   rw[zE hv.len hs.len (hR.one _ wG).1,(hR.one _ wG).2]; simp
  ·exact rest_lead hp hR' hv' r hr
def insF(p:Int)(own:L1)(a:Nat)(o:L1):L1:=subv p o own (nth o a)
def ins(p:Int)(own:L1)(a:Nat):L2→L2
 | []=>[own]
 |o::out=> if a < ld o then own::insF p own a o::out.map (insF p own a)else insF p own a o::ins p own a out
theorem mem_ins{own:L1}{a:Nat}{x:L1}:∀ {out:L2},x∈ins p own a out↔x=own∨∃o∈out,x=insF p own a o
 | []=> by simp[ins]
 |o::out=> by
  unfold ins;split
  ·simp only[vA,wQ]
   constructor
   ·rintro(h|h|⟨q,h1,h2⟩)
    ·exact .inl h
    ·exact .inr ⟨o,.inl rfl,h⟩
    ·exact .inr ⟨q,.inr h1,h2.symm⟩
   ·rintro(h|⟨q,rfl|h1,h2⟩)
    ·exact .inl h
    ·exact .inr (.inl h2)
    ·exact .inr (.inr ⟨q,h1,h2.symm⟩)
  ·simp only[vA,mem_ins (out:=out)]
   constructor
   ·rintro(h|h|⟨q,h1,h2⟩)
    ·exact .inr ⟨o,.inl rfl,h⟩
    ·exact .inl h
    ·exact .inr ⟨q,.inr h1,h2⟩
   ·rintro(h|⟨q,rfl|h1,h2⟩)
    ·exact .inr (.inl h)
    ·exact .inl h2
    ·exact .inr (.inr ⟨q,h1,h2⟩)
structure New (p:Int) (w:Nat) (R:L2) (own:L1) (a:Nat):Prop where
 ok:qD p w own
 lt:a < w
 z:∀j,j < a→nth own j=0
 one:nth own a=1
 zl:∀r∈R,nth own (ld r)=0
theorem New.ld{R:L2}{own:L1}{a:Nat}(n:New p w R own a):Rv.ld own=a:=ld_of n.z (by rw[n.one]; decide)
theorem xG(hp:1 < p){R:L2}{own:L1}{a:Nat}(hR:Red p w R)(n:New p w R own a){o:L1}(ho:o∈R):qD p w (insF p own a o)∧ld (insF p own a o)=ld o∧nth (insF p own a o) (ld o)=1∧nth (insF p own a o) a=0∧ld o≠a:=by
 have hok:=hR.ok o ho;have hone:=hR.one o ho;have hne:Rv.ld o≠a:=fun e=> by have:=n.zl o ho; rw[e,n.one]at this; cases this
 have h1:nth (insF p own a o) (Rv.ld o)=1:=by
  unfold insF;rw[zE hok.len n.ok.len hone.1,hone.2,n.zl o ho];simp only[Int.mul_zero,Int.sub_zero];exact Int.emod_eq_of_lt (by decide) hp
 refine⟨qB (by omega) hok.len n.ok.len,?_,h1,?_,hne⟩
 ·refine ld_of (fun j hj=>?_) (by rw[h1]; decide)
  have hjw:j < w:=by omega
  unfold insF;rw[zE hok.len n.ok.len hjw,zp hj];rcases Nat.lt_or_gt_of_ne hne with q|q
  ·rw[n.z j (by omega)]; simp
  ·rw[zp q]; simp
 ·unfold insF
  rw[zE hok.len n.ok.len n.lt,n.one]; simp
theorem insF_zero(hp:1 < p){R:L2}{own:L1}{a:Nat}(hR:Red p w R)(n:New p w R own a){o s:L1}(ho:o∈R)(hs:s∈R)(h:nth o (ld s)=0):nth (insF p own a o) (ld s)=0:=by
 unfold insF;rw[zE (hR.ok o ho).len n.ok.len (hR.one s hs).1,h,n.zl s hs]; simp
theorem ins_ord(hp:1 < p){R:L2}{own:L1}{a:Nat}(hR:Red p w R)(n:New p w R own a):∀ {out:L2},(∀o∈out,o∈R)→out.Pairwise (fun r s=> ld r < ld s∧nth r (ld s)=0)→(ins p own a out).Pairwise fun r s=> ld r < ld s∧nth r (ld s)=0
 | [],_,_=> by simp[ins]
 |o::out,hm,ho=> by
  obtain⟨o1,o2⟩:=vG.1 ho;have hoR:=hm o wG;have hmap:∀ {l:L2},(∀x∈l,x∈R)→l.Pairwise (fun r s=> Rv.ld r < Rv.ld s∧nth r (Rv.ld s)=0)→(l.map (insF p own a)).Pairwise fun r s=> Rv.ld r < Rv.ld s∧nth r (Rv.ld s)=0:=fun {l} hl hp'=> by
   rw[List.pairwise_map];refine hp'.imp_of_mem fun hr hs q=>?_;rw[(xG hp hR n (hl _ hr)).2.1,(xG hp hR n (hl _ hs)).2.1];exact⟨q.1,insF_zero hp hR n (hl _ hr) (hl _ hs) q.2⟩
  unfold ins;split
  ·rename_i ha
   rw[←vB];refine vG.2 ⟨fun x hx=>?_,hmap hm ho⟩;obtain⟨q,hq,rfl⟩:=wQ.1 hx;rw[(xG hp hR n (hm q hq)).2.1,n.ld];refine⟨?_,n.zl q (hm q hq)⟩;rcases vA.1 hq with rfl|hq
   ·exact ha
   ·have:=(o1 q hq).1; omega
  ·rename_i ha
   have hf:=xG hp hR n hoR;refine vG.2 ⟨fun x hx=>?_,ins_ord hp hR n (fun q hq=> hm q (wI _ hq)) o2⟩;rw[hf.2.1];rcases mem_ins.1 hx with rfl|⟨q,hq,rfl⟩
   ·rw[n.ld]; exact⟨by have:=hf.2.2.2.2; omega,hf.2.2.2.1⟩
   ·have hqR:=hm q (wI _ hq)
    rw[(xG hp hR n hqR).2.1];exact⟨(o1 q hq).1,insF_zero hp hR n hoR hqR (o1 q hq).2⟩
theorem ins_red(hp:1 < p){R:L2}{own:L1}{a:Nat}(hR:Red p w R)(n:New p w R own a):Red p w (ins p own a R):=by
 refine⟨fun x hx=>?_,fun x hx=>?_,ins_ord hp hR n (fun _ h=> h) hR.ord⟩
 ·rcases mem_ins.1 hx with rfl|⟨q,hq,rfl⟩
  ·exact n.ok
  ·exact(xG hp hR n hq).1
 ·rcases mem_ins.1 hx with rfl|⟨q,hq,rfl⟩
  ·rw[n.ld]; exact⟨n.lt,n.one⟩
  ·have h:=xG hp hR n hq
   rw[h.2.1]; exact⟨(hR.one q hq).1,h.2.2.1⟩
structure zN (p:Int) (w:Nat) (rows out:L2):Prop where
 red:Red p w out
 sp:∀v,Sp p w out v↔Sp p w rows v
theorem zN.nil(p:Int)(w:Nat):zN p w [] []:=⟨⟨fun r h=>(nomatch h),fun r h=>(nomatch h),.nil⟩,fun v=> yA⟩
theorem zN.skip(hp:1 < p){rows out:L2}{row:L1}(h:zN p w rows out)(hr:Rows p w rows)(hrow:qD p w row)(h0:∀j,j < w→nth (rest p out row) j=0):zN p w (rows++[row]) out:=by
 have hz:rest p out row=zv w:=(jQ (by omega) h.red.ok hrow).ext (zj (by omega) w) fun j hj=> by rw[h0 j hj,zh]; exact .refl _ _
 have hin:Sp p w out row:=(rest_iff (by omega) h.red.ok h.red.ok (fun r hr=> .mem (by omega) h.red.ok hr) hrow).1 (by rw[hz]; exact .zero);refine⟨h.red,fun v=>⟨fun hv=>((h.sp v).1 hv).mono fun r hr=> vJ _ hr,fun hv=> hv.into (by omega) h.red.ok fun r hr'=>?_⟩⟩;rcases wN.1 hr' with q|q
 ·exact(h.sp r).2 (.mem (by omega) hr q)
 ·have:r=row:=by simpa using q
  rw[this]; exact hin
theorem zN.new(hp:1 < p){rows out:L2}{row:L1}(h:zN p w rows out)(hrow:qD p w row){a:Nat}(ha:a < w)(hz:∀j,j < a→nth (rest p out row) j=0){k:Int}(hk:Cg p (nth (rest p out row) a*k) 1):
  New p w out (scl p (rest p out row) k) a:=by
 have aM:0 < p:=by omega
 have hrest:=jQ aM h.red.ok hrow;have hown:=scl_ok aM hrest k;refine⟨hown,ha,fun j hj=>?_,?_,fun r hr'=>?_⟩
 ·have h1:=(nth_scl aM hrest k (show j < w by omega))
  rw[hz j hj]at h1;exact(h1.trans ⟨0,by grind⟩).eq (hown.rng _ (by omega)).1 (hown.rng _ (by omega)).2 (yE _) aM
 ·exact((nth_scl aM hrest k ha).trans hk).eq (hown.rng _ ha).1 (hown.rng _ ha).2 (by decide) hp
 ·have hl:=(h.red.one r hr').1
  have h1:=nth_scl aM hrest k hl;rw[rest_lead aM h.red hrow r hr']at h1;exact(h1.trans ⟨0,by grind⟩).eq (hown.rng _ hl).1 (hown.rng _ hl).2 (yE _) aM
theorem ins_len{own:L1}{a:Nat}:∀ {out:L2},(ins p own a out).length=out.length+1
 | []=> rfl
 |o::out=> by
  unfold ins;split
  ·simp
  ·simp[ins_len (out:=out)]
theorem zN.put(hp:1 < p){rows out:L2}{row:L1}(h:zN p w rows out)(hr:Rows p w rows)(hrow:qD p w row){a:Nat}(ha:a < w)(hz:∀j,j < a→nth (rest p out row) j=0){k:Int}(hk:Cg p (nth (rest p out row) a*k) 1):
  zN p w (rows++[row]) (ins p (scl p (rest p out row) k) a out):=by
 have aM:0 < p:=by omega
 have hrest:=jQ aM h.red.ok hrow;have hown:=scl_ok aM hrest k;have n:New p w out (scl p (rest p out row) k) a:=h.new hp hrow ha hz hk;have hred:=ins_red hp h.red n;have hT:Rows p w (rows++[row]):=fun r hr'=> by
  rcases wN.1 hr' with q|q
  ·exact hr r q
  ·have:r=row:=by simpa using q
   rw[this]; exact hrow
 have hout:∀r∈out,Sp p w (rows++[row]) r:=fun r hr'=>((h.sp r).1 (.mem aM h.red.ok hr')).mono fun s hs=> vJ _ hs;have hro:Sp p w (rows++[row]) (scl p (rest p out row) k):=by
  rw[scl_sub aM hrest];exact((rest_iff aM hT h.red.ok hout hrow).2 (.mem aM hT (vZ _ wG))).scale aM hT _
 have hown':Sp p w (ins p (scl p (rest p out row) k) a out) (scl p (rest p out row) k):= .mem aM hred.ok (mem_ins.2 (.inl rfl));have hback:∀r∈out,Sp p w (ins p (scl p (rest p out row) k) a out) r:=fun r hr'=> by
  have h1:Sp p w (ins p (scl p (rest p out row) k) a out) (insF p (scl p (rest p out row) k) a r):= .mem aM hred.ok (mem_ins.2 (.inr ⟨r,hr',rfl⟩));exact(sub_iff aM hred.ok (h.red.ok r hr') hown' _).1 h1
 refine⟨hred,fun v=>⟨fun hv=> hv.into aM hT fun r hr'=>?_,fun hv=> hv.into aM hred.ok fun r hr'=>?_⟩⟩
 ·rcases mem_ins.1 hr' with rfl|⟨o,ho,rfl⟩
  ·exact hro
  ·exact Sp.lin aM hT (hout o ho) hro _
 ·rcases wN.1 hr' with q|q
  ·exact((h.sp r).2 (.mem aM hr q)).into aM hred.ok hback
  ·have e:r=row:=by simpa using q
   rw[e];refine(rest_iff aM hred.ok h.red.ok hback hrow).1 ?_;have:=hown'.scale aM hred.ok (-(nth (rest p out row) a))
   rwa[scl_back aM hrest hk]at this
end
end Rv
namespace Rv
def qi(l:L2)(i:Nat):L1:=l.getD i []
theorem qC{l:L2}{i:Nat}(h:i < l.length):qi l i=l[i]:=by simp[qi,h]
theorem mem_row{l:L2}{r:L1}:r∈l↔∃i,i < l.length∧qi l i=r:=by
 constructor
 ·intro h
  obtain⟨i,hi,rfl⟩:=wK h;exact⟨i,hi,qC hi⟩
 ·rintro⟨i,hi,rfl⟩
  rw[qC hi]; exact wC hi
theorem zx{l:L2}{i:Nat}(h:i < l.length):qi l i∈l:=mem_row.2 ⟨i,h,rfl⟩
section
variable {p:Int} {w:Nat}
structure GInv (p:Int) (w:Nat) (rows:L2) (c:Nat) (l:L2) (d:Nat):Prop where
 ok:Rows p w l
 sp:∀v,Sp p w l v↔Sp p w rows v
 dn:d≤l.length
 cw:c≤w
 lead:∀k,k < d→ld (qi l k) < c∧nth (qi l k) (ld (qi l k))=1
 up:∀k m,k < m→m < d→ld (qi l k) < ld (qi l m)
 z1:∀i k,i < l.length→k < d→i≠k→nth (qi l i) (ld (qi l k))=0
 z2:∀i j,d≤i→i < l.length→j < c→nth (qi l i) j=0
theorem GInv.start{rows:L2}(h:Rows p w rows):GInv p w rows 0 rows 0:=
 ⟨h,fun v=> yA,vD _,vD _,fun k hk=> absurd hk (yH _),fun k m _ hk=> absurd hk (yH _),fun i k _ hk=> absurd hk (yH _),fun i j _ _ hj=> absurd hj (yH _)⟩
theorem GInv.skip{rows l:L2}{c d:Nat}(g:GInv p w rows c l d)(hc:c < w)(h:∀i,d≤i→i < l.length→nth (qi l i) c=0):GInv p w rows (c+1) l d:=
 ⟨g.ok,g.sp,g.dn,hc,fun k hk=>⟨Nat.lt_succ_of_lt (g.lead k hk).1,(g.lead k hk).2⟩,g.up,g.z1,fun i j h1 h2 h3=> by
  rcases wS j c with q|q
  ·exact g.z2 i j h1 h2 q
  ·have:j=c:=by omega
   subst this; exact h i h1 h2⟩
theorem GInv.done{rows l:L2}{c d:Nat}(hp:1 < p)(g:GInv p w rows c l d)(h:c=w∨d=l.length):zN p w rows (l.take d):=by
 have aM:0 < p:=by omega
 have hdl:=g.dn;have hm:∀r,r∈l.take d↔∃i,i < d∧qi l i=r:=fun r=> by
  rw[mem_row];have hl:(l.take d).length=d:=by simp; omega
  rw[hl];constructor
  ·rintro⟨i,h1,h2⟩
   refine⟨i,h1,?_⟩;rw[qC (by omega)];rw[qC (by omega),List.getElem_take]at h2; exact h2
  ·rintro⟨i,h1,h2⟩
   refine⟨i,h1,?_⟩;rw[qC (by omega)]at h2;rw[qC (by omega),List.getElem_take]; exact h2
 have hok:Rows p w (l.take d):=fun r hr=> g.ok r (wW hr);refine⟨⟨hok,fun r hr=>?_,?_⟩,fun v=>(Iff.intro (fun hv=>?_) fun hv=>?_).trans (g.sp v)⟩
 ·obtain⟨i,hi,rfl⟩:=(hm r).1 hr
  have h1:=g.lead i hi;have h2:=g.cw;exact⟨by omega,h1.2⟩
 ·rw[List.pairwise_iff_getElem]
  intro i j h1 h2 hij;have e1:(l.take d)[i]=qi l i:=by rw[List.getElem_take,qC]
  have e2:(l.take d)[j]=qi l j:=by rw[List.getElem_take,qC]
  simp only[yG]at h1 h2;rw[e1,e2];exact⟨g.up i j hij (by omega),g.z1 i j (by omega) (by omega) (by omega)⟩
 ·exact hv.mono fun r hr=> wW hr
 ·refine hv.into aM hok fun r hr=>?_
  obtain⟨i,hi,rfl⟩:=mem_row.1 hr;rcases wS i d with q|q
  ·exact .mem aM hok ((hm _).2 ⟨i,q,rfl⟩)
  ·rcases h with h|h
   ·have hz:qi l i=zv w:=(g.ok _ hr).ext (zj aM w) fun j hj=> by rw[g.z2 i j q hi (by omega),zh]; exact .refl _ _
    rw[hz]; exact .zero
   ·omega
def jA(p:Int)(c d:Nat)(row:L1)(l:L2):L2:=(l.set d row).mapIdx fun i r=> if i=d then r else subv p r row (nth r c)
theorem gstep_len{c d:Nat}{row:L1}{l:L2}:(jA p c d row l).length=l.length:=by simp[jA]
theorem gstep_at{c d:Nat}{row:L1}{l:L2}(hd:d < l.length){i:Nat}(hi:i < l.length):qi (jA p c d row l) i=if i=d then row else subv p (qi l i) row (nth (qi l i) c):=by
 rw[qC (by rw[gstep_len]; exact hi),qC hi];simp only[jA,List.getElem_mapIdx];split
 ·rename_i e; subst e; simp
 ·rename_i e; rw[List.getElem_set_ne (yK e)]
theorem GInv.put{rows l l2:L2}{c d j:Nat}{k:Int}(hp:1 < p)(g:GInv p w rows c l d)(hc:c < w)(hj:d≤j)(hjl:j < l.length)(hk:Cg p (nth (qi l j) c*k) 1)
  (aw:l2.length=l.length) (h2:∀i,i < l.length→qi l2 i=qi l (if i=j then d else if i=d then j else i)):GInv p w rows (c+1) (jA p c d (scl p (qi l j) k) l2) (d+1):=by
 have aM:0 < p:=by omega
 have hdl:d < l.length:=by omega
 have hrj:=g.ok _ (zx hjl);have hrow:=scl_ok aM hrj k;generalize hR:scl p (qi l j) k=row at*
 -- the new row
 have zr:∀m,m < c→nth row m=0:=fun m hm=> by
  have h1:=nth_scl aM hrj k (show m < w by omega);rw[hR,g.z2 j m hj hjl hm]at h1;exact(h1.trans ⟨0,by grind⟩).eq (hrow.rng _ (by omega)).1 (hrow.rng _ (by omega)).2 (yE _) aM
 have or:nth row c=1:=by
  have h1:=nth_scl aM hrj k hc;rw[hR]at h1;exact(h1.trans hk).eq (hrow.rng _ hc).1 (hrow.rng _ hc).2 (by decide) hp
 have lr:ld row=c:=ld_of zr (by rw[or]; decide);have hL:(jA p c d row l2).length=l.length:=gstep_len.trans aw;have ha:∀i,i < l.length→qi (jA p c d row l2) i=if i=d then row else subv p (qi l2 i) row (nth (qi l2 i) c):=fun i hi=> gstep_at (by omega) (by omega)
 have tJ:∀i,i < l.length→qD p w (qi l2 i):=fun i hi=> by
  rw[h2 i hi];refine g.ok _ (zx ?_);split
  ·exact hdl
  ·split
   ·exact hjl
   ·exact hi
 have okn:Rows p w (jA p c d row l2):=fun r hr=> by
  obtain⟨i,hi,rfl⟩:=mem_row.1 hr;rw[hL]at hi;rw[ha i hi];split
  ·exact hrow
  ·exact qB aM (tJ i hi).len hrow.len
 -- rows of before keep what they have before c
 have keep:∀i m,i < l.length→i≠d→m < c→nth (qi (jA p c d row l2) i) m=nth (qi l2 i) m:=fun i m hi hid hm=> by
  have hr:=(tJ i hi).rng m (by omega);rw[ha i hi,if_neg hid,zE (tJ i hi).len hrow.len (by omega),zr m hm];simp only[Int.mul_zero,Int.sub_zero];exact Int.emod_eq_of_lt hr.1 hr.2
 have zc:∀i,i < l.length→i≠d→nth (qi (jA p c d row l2) i) c=0:=fun i hi hid=> by
  rw[ha i hi,if_neg hid,zE (tJ i hi).len hrow.len hc,or]; simp
 have lo:∀i,i < d→qi l2 i=qi l i:=fun i hi=> by rw[h2 i (by omega),if_neg (by omega),if_neg (by omega)]
 have ldk:∀i,i < d→ld (qi (jA p c d row l2) i)=ld (qi l i)∧nth (qi (jA p c d row l2) i) (ld (qi l i))=1:=fun i hi=> by
  have h1:=g.lead i hi;have e1:nth (qi (jA p c d row l2) i) (ld (qi l i))=1:=by rw[keep i _ (by omega) (by omega) h1.1,lo i hi,h1.2]
  refine⟨ld_of (fun m hm=>?_) (by rw[e1]; decide),e1⟩;rw[keep i m (by omega) (by omega) (by omega),lo i hi,zp hm]
 have rd:qi (jA p c d row l2) d=row:=by rw[ha d hdl,if_pos rfl]
 -- the space
 have hspR:Sp p w l row:=by rw[←hR,scl_sub aM hrj]; exact(Sp.mem aM g.ok (zx hjl)).scale aM g.ok _
 have hspN:Sp p w (jA p c d row l2) row:=by
  have:=zx (l:=jA p c d row l2) (i:=d) (by omega);rw[rd]at this;exact .mem aM okn this
 have back:∀i,i < l.length→i≠d→Sp p w (jA p c d row l2) (qi l2 i):=fun i hi hid=> by
  have:=zx (l:=jA p c d row l2) (i:=i) (by omega);rw[ha i hi,if_neg hid]at this;exact(sub_iff aM okn (tJ i hi) hspN _).1 (.mem aM okn this)
 have backj:Sp p w (jA p c d row l2) (qi l j):=by
  have:=hspN.scale aM okn (-(nth (qi l j) c));rw[←hR,scl_back aM hrj hk]at this;rw[←hR]; exact this
 have hsw:∀i,i < l.length→∃m,m < l.length∧qi l2 m=qi l i:=fun i hi=> by
  by_cases e:i=j
  ·exact⟨d,hdl,by rw[h2 d hdl]; subst e; by_cases q:d=i <;> simp[q]⟩
  ·by_cases e2:i=d
   ·exact⟨j,hjl,by rw[h2 j hjl,if_pos rfl,e2]⟩
   ·exact⟨i,hi,by rw[h2 i hi,if_neg e,if_neg e2]⟩
 refine⟨okn,fun v=>(Iff.intro (fun hv=>?_) fun hv=>?_).trans (g.sp v),by omega,hc,fun k' hk'=>?_,fun k' m hkm hm=>?_,fun i k' hi hk' hne=>?_,fun i m h1 hi hm=>?_⟩
 ·refine hv.into aM g.ok fun r hr=>?_
  obtain⟨i,hi,rfl⟩:=mem_row.1 hr;rw[hL]at hi;rw[ha i hi];split
  ·exact hspR
  ·refine Sp.lin aM g.ok ?_ hspR _
   rw[h2 i hi];refine .mem aM g.ok (zx ?_);split
   ·exact hdl
   ·exact hi
 ·refine hv.into aM okn fun r hr=>?_
  obtain⟨i,hi,rfl⟩:=mem_row.1 hr;by_cases e:i=j
  ·subst e; exact backj
  ·by_cases e2:i=d
   ·subst e2
    have:=back j hjl (fun q=> e q.symm)
    rwa[h2 j hjl,if_pos rfl]at this
   ·have:=back i hi e2
    rwa[h2 i hi,if_neg e,if_neg e2]at this
 ·rcases wS k' d with q|q
  ·have:=ldk k' q
   rw[this.1];exact⟨by have:=(g.lead k' q).1; omega,this.2⟩
  ·have:k'=d:=by omega
   subst this;rw[rd,lr]; exact⟨Nat.lt_succ_self _,or⟩
 ·rcases wS m d with q|q
  ·rw[(ldk k' (by omega)).1,(ldk m q).1]; exact g.up k' m hkm q
  ·have:m=d:=by omega
   subst this;rw[(ldk k' hkm).1,rd,lr]; exact(g.lead k' hkm).1
 ·rw[hL]at hi
  rcases wS k' d with q|q
  ·rw[(ldk k' q).1]
   have hlc:=(g.lead k' q).1;by_cases e:i=d
   ·subst e; rw[rd]; exact zr _ hlc
   ·rw[keep i _ hi e hlc,h2 i hi]
    split
    ·exact g.z1 d k' hdl q (by omega)
    ·exact g.z1 i k' hi q hne
  ·have:k'=d:=by omega
   subst this;rw[rd,lr]; exact zc i hi hne
 ·rw[hL]at hi
  rcases wS m c with q|q
  ·rw[keep i m hi (by omega) q,h2 i hi]
   split
   ·exact g.z2 d m (wE _) hdl q
   ·split
    ·omega
    ·exact g.z2 i m (by omega) hi q
  ·have:m=c:=by omega
   subst this;exact zc i hi (by omega)
end
theorem zN.same{p:Int}{w:Nat}(hp:1 < p){rows a b:L2}(ha:zN p w rows a)(hb:zN p w rows b):a=b:=
 ha.red.unique (by omega) hb.red fun v=>(ha.sp v).trans (hb.sp v).symm
end Rv
namespace Rv
def zH(n i:Nat):L1:=(zv n).set i 1
theorem unitv_len(n i:Nat):(zH n i).length=n:=by simp[zH,zv]
theorem jY{n i j:Nat}(hi:i < n):nth (zH n i) j=if j=i then 1 else 0:=by
 rcases wS j n with hj|hj
 ·rw[qP (by rw[unitv_len]; exact hj)]
  unfold zH;rw[List.getElem_set];by_cases e:i=j
  ·subst e; rw[if_pos rfl,if_pos rfl]
  ·rw[if_neg e,if_neg (yK e)]; simp[zv]
 ·rw[nth_out (by rw[unitv_len]; exact hj),if_neg (by omega)]
def zJ(n:Nat):L2:=(List.range n).map (zH n)
theorem jv(n:Nat):(zJ n).length=n:=by simp[zJ]
section
variable {p:Int}
theorem zT(hp:1 < p){n i:Nat}(hi:i < n):qD p n (zH n i):=⟨unitv_len n i,fun j _=> by rw[jY hi]; split <;> omega⟩
theorem ld_unit{n i:Nat}(hi:i < n):ld (zH n i)=i:=ld_of (fun j hj=> by rw[jY hi,if_neg (by omega)]) (by rw[jY hi,if_pos rfl]; decide)
theorem units_red(hp:1 < p)(n:Nat):Red p n (zJ n):=by
 have hm:∀r,r∈zJ n→∃i,i < n∧r=zH n i:=fun r hr=> by
  obtain⟨i,hi,rfl⟩:=wQ.1 hr;exact⟨i,wX.1 hi,rfl⟩
 refine⟨fun r hr=>?_,fun r hr=>?_,?_⟩
 ·obtain⟨i,hi,rfl⟩:=hm r hr; exact zT hp hi
 ·obtain⟨i,hi,rfl⟩:=hm r hr
  rw[ld_unit hi,jY hi,if_pos rfl]; exact⟨hi,rfl⟩
 ·rw[List.pairwise_iff_getElem]
  intro i j h1 h2 hij;rw[jv]at h1 h2;have e1:(zJ n)[i]'(by rw[jv]; exact h1)=zH n i:=by simp[zJ]
  have e2:(zJ n)[j]'(by rw[jv]; exact h2)=zH n j:=by simp[zJ]
  rw[e1,e2,ld_unit h1,ld_unit h2,jY h1,if_neg (by omega)];exact⟨hij,rfl⟩
theorem jZ(r:L1)(w j:Nat):nth (r.drop w) j=nth r (w+j):=by simp[nth]
theorem nth_app{r s:L1}{j:Nat}:nth (r++s) j=if j < r.length then nth r j else nth s (j - r.length):=by
 unfold nth;rw[gD,gD,gD];split
 ·rename_i h; rw[gC h]
 ·rename_i h; rw[gI (Nat.le_of_not_lt h)]
def zQ(w:Nat)(E:L2):L2:=(E.filter fun r=> decide (w≤ld r)).map (List.drop w)
theorem ld_drop{r:L1}{w:Nat}(h:w≤ld r)(hl:ld r < r.length):ld (r.drop w)=ld r - w:=ld_of (fun j hj=> by rw[jZ]; exact zp (by omega)) (by rw[jZ,show w+(ld r - w)=ld r by omega]; exact ld_ne hl)
theorem tails_red{w n:Nat}{E:L2}(h:Red p (w+n) E):Red p n (zQ w E):=by
 have hm:∀x,x∈zQ w E→∃r∈E,w≤ld r∧x=r.drop w:=fun x hx=> by
  obtain⟨r,hr,rfl⟩:=wQ.1 hx;obtain⟨h1,h2⟩:=uA.1 hr;exact⟨r,h1,by simpa using h2,rfl⟩
 refine⟨fun x hx=>?_,fun x hx=>?_,?_⟩
 ·obtain⟨r,hr,h1,rfl⟩:=hm x hx
  have hk:=h.ok r hr;exact⟨by rw[yN,hk.len]; omega,fun j hj=> by rw[jZ]; exact hk.rng _ (by omega)⟩
 ·obtain⟨r,hr,h1,rfl⟩:=hm x hx
  have hk:=h.ok r hr;have ho:=h.one r hr;rw[ld_drop h1 (by rw[hk.len]; exact ho.1),jZ,show w+(ld r - w)=ld r by omega];exact⟨by omega,ho.2⟩
 ·unfold zQ
  rw[List.pairwise_map];refine(h.ord.sublist List.filter_sublist).imp_of_mem fun hr hs q=>?_;rename_i r s;obtain⟨r1,r2⟩:=uA.1 hr;obtain⟨s1,s2⟩:=uA.1 hs;have r2':w≤ld r:=by simpa using r2
  have i4:w≤ld s:=by simpa using s2
  rw[ld_drop r2' (by rw[(h.ok r r1).len]; exact(h.one r r1).1),ld_drop i4 (by rw[(h.ok s s1).len]; exact(h.one s s1).1),jZ,show w+(ld s - w)=ld s by omega];exact⟨by omega,q.2⟩
theorem zN.self{w:Nat}{E:L2}(h:Red p w E):zN p w E E:=⟨h,fun v=> yA⟩
def jl(n:Nat)(rows:L2):L2:=(List.range n).map fun i=> qi rows i++zH n i
theorem longs_len(n:Nat)(rows:L2):(jl n rows).length=n:=by simp[jl]
theorem longs_at{n:Nat}{rows:L2}{i:Nat}(h:i < (jl n rows).length):(jl n rows)[i]=qi rows i++zH n i:=by simp[jl]
theorem longs_ok(hp:1 < p){w:Nat}{rows:L2}(h:Rows p w rows):Rows p (w+rows.length) (jl rows.length rows):=fun x hx=> by
 obtain⟨i,hi,rfl⟩:=wQ.1 hx;have hi':=wX.1 hi;have hr:=h _ (zx hi');have hu:=zT hp hi';refine⟨by rw[wR,hr.len,hu.len],fun j hj=>?_⟩;rw[nth_app,hr.len];split
 ·rename_i q; exact hr.rng j q
 ·exact hu.rng _ (by omega)
end
end Rv
namespace Rv
section
variable {p:Int} {w w':Nat}
structure Lin (p:Int) (w w':Nat) (φ:L1→L1):Prop where
 ok:∀u,qD p w u→qD p w' (φ u)
 sub:∀u v k,qD p w u→qD p w v→φ (subv p u v k)=subv p (φ u) (φ v) k
theorem sub_zv(hp:0 < p){w:Nat}:subv p (zv w) (zv w) 1=zv w:=
 (qB hp (zj hp w).len (zj hp w).len).ext (zj hp w) fun j hj=>(qL (zj hp w).len (zj hp w).len hj).trans (by rw[zh]; exact⟨0,by simp⟩)
theorem sub_self(hp:0 < p){w:Nat}{v:L1}(hv:qD p w v):subv p v v 1=zv w:=
 (qB hp hv.len hv.len).ext (zj hp w) fun j hj=>(qL hv.len hv.len hj).trans (by rw[zh]; exact⟨0,by grind⟩)
theorem Lin.zero(hp:0 < p){φ:L1→L1}(h:Lin p w w' φ):φ (zv w)=zv w':=by
 have h0:=zj hp w;have:=h.sub (zv w) (zv w) 1 h0 h0;rw[sub_zv hp,sub_self hp (h.ok _ h0)]at this;exact this
theorem Lin.rows{φ:L1→L1}(h:Lin p w w' φ){R:L2}(hR:Rows p w R):Rows p w' (R.map φ):=fun r hr=> by
 obtain⟨s,hs,rfl⟩:=wQ.1 hr;exact h.ok s (hR s hs)
theorem Lin.sp(hp:0 < p){φ:L1→L1}(h:Lin p w w' φ){R:L2}(hR:Rows p w R){v:L1}(hv:Sp p w R v):Sp p w' (R.map φ) (φ v):=by
 induction hv with
 |zero=> rw[h.zero hp]; exact .zero
 | @sub v r k hv hr ih=>
  rw[h.sub v r k (hv.ok hp hR) (hR r hr)];exact .sub k ih (List.mem_map_of_mem hr)
theorem jP(hp:0 < p){R:L2}(hR:Red p w R){v:L1}(hv:qD p w v):rest p R v=zv w↔Sp p w R v:=by
 have hb:=rest_iff hp hR.ok hR.ok (fun r hr=> .mem hp hR.ok hr) hv;constructor
 ·intro e
  exact hb.1 (by rw[e]; exact .zero)
 ·intro h
  have h1:=hb.2 h;have h2:=jQ hp hR.ok hv;refine h2.ext (zj hp w) fun j hj=>?_;have h3:=hR.coord hp h1 j hj;rw[comb_zero fun r hr=> .inl (rest_lead hp hR hv r hr)]at h3;rw[zh]; exact h3
theorem Lin.comp{w'':Nat}{φ ψ:L1→L1}(h:Lin p w w' φ)(k:Lin p w' w'' ψ):Lin p w w'' fun u=> ψ (φ u):=
 ⟨fun u hu=> k.ok _ (h.ok u hu),fun u v c hu hv=> by show ψ (φ (subv p u v c))=subv p (ψ (φ u)) (ψ (φ v)) c; rw[h.sub u v c hu hv,k.sub _ _ _ (h.ok u hu) (h.ok v hv)]⟩
def HasInv(p:Int):Prop:=∀a,0 < a→a < p→∃k,Cg p (a*k) 1
theorem ech_step(hp:1 < p)(hi:HasInv p){rows E:L2}{v:L1}(h:zN p w rows E)(hr:Rows p w rows)(hv:qD p w v):
  ∃E',zN p w (rows++[v]) E'∧(Sp p w rows v→E'.length=E.length)∧(¬Sp p w rows v→E'.length=E.length+1):=by
 have aM:0 < p:=by omega
 have hrest:=jQ aM h.red.ok hv;by_cases hz:Sp p w rows v
 ·have e:rest p E v=zv w:=(jP aM h.red hv).2 ((h.sp v).2 hz)
  exact⟨E,h.skip hp hr hv (fun j hj=> by rw[e,zh]),fun _=> rfl,fun q=> absurd hz q⟩
 ·have hne:¬∀j,j < w→nth (rest p E v) j=0:=fun q=> hz ((h.sp v).1 ((jP aM h.red hv).1 (hrest.ext (zj aM w) fun j hj=> by rw[q j hj,zh]; exact .refl _ _)))
  have hl:ld (rest p E v) < w:=by
   refine Nat.lt_of_not_le fun q=> hne fun j hj=> zp (by omega)
  have hnz:=ld_ne (r:=rest p E v) (by rw[hrest.len]; exact hl);have hrng:=hrest.rng _ hl;obtain⟨k,hk⟩:=hi (nth (rest p E v) (ld (rest p E v))) (by omega) hrng.2;exact⟨_,h.put hp hr hv hl (fun j hj=> zp hj) hk,fun q=> absurd q hz,fun _=> ins_len⟩
def sumI(f:Nat→Int):Nat→Int
 |0=> 0
 |n+1=> sumI f n+f n
theorem sumI_cg{f g:Nat→Int}:∀ {n:Nat},(∀i,i < n→Cg p (f i) (g i))→Cg p (sumI f n) (sumI g n)
 |0,_=> .refl _ _
 |n+1,h=> .add (sumI_cg fun i hi=> h i (by omega)) (h n (by omega))
theorem jK{f g:Nat→Int}{n:Nat}(h:∀i,i < n→f i=g i):sumI f n=sumI g n:=by
 induction n with
 |zero=> rfl
 |succ n ih=> unfold sumI; rw[ih fun i hi=> h i (by omega),h n (by omega)]
theorem sumI_zero{f:Nat→Int}{n:Nat}(h:∀i,i < n→f i=0):sumI f n=0:=by
 induction n with
 |zero=> rfl
 |succ n ih=> unfold sumI; rw[ih fun i hi=> h i (by omega),h n (by omega)]; rfl
theorem sumI_lin{f g:Nat→Int}{k:Int}:∀ {n:Nat},sumI (fun i=> f i - k*g i) n=sumI f n - k*sumI g n
 |0=> by simp[sumI]
 |n+1=> by unfold sumI; rw[sumI_lin (n:=n)]; grind
def dot(f:Nat→Int)(m:L2)(n j:Nat):Int:=sumI (fun i=> f i*nth (qi m i) j) n
theorem dot_cg{f g:Nat→Int}{m:L2}{n j:Nat}(h:∀i,i < n→Cg p (f i) (g i)):Cg p (dot f m n j) (dot g m n j):=sumI_cg fun i hi=> .mul (h i hi) (.refl _ _)
theorem dot_lin{f g:Nat→Int}{k:Int}{m:L2}{n j:Nat}:dot (fun i=> f i - k*g i) m n j=dot f m n j - k*dot g m n j:=by
 unfold dot;rw[←sumI_lin];exact jK fun i _=> by grind
theorem dot_zero{f:Nat→Int}{m:L2}{n j:Nat}(h:∀i,i < n→f i=0):dot f m n j=0:=sumI_zero fun i hi=> by rw[h i hi]; simp
theorem dot_unit{a:Nat}{m:L2}{j:Nat}:∀ {n:Nat},a < n→dot (fun i=> if i=a then 1 else 0) m n j=nth (qi m a) j
 |n+1,h=> by
  unfold dot sumI;by_cases q:a=n
  ·subst q
   rw[sumI_zero fun i hi=> by simp only; rw[if_neg (by omega)]; simp];simp
  ·have:=dot_unit (m:=m) (j:=j) (n:=n) (a:=a) (by omega)
   unfold dot at this;rw[this];simp only;rw[if_neg (by omega)]; simp
structure Graph (p:Int) (w n:Nat) (rows:L2) (u:L1):Prop where
 ok:qD p (w+n) u
 at_:∀j,j < w→Cg p (nth u j) (dot (fun i=> nth u (w+i)) rows n j)
theorem Graph.sub(hp:0 < p){n:Nat}{rows:L2}{u v:L1}(hu:Graph p w n rows u)(hv:Graph p w n rows v)(k:Int):Graph p w n rows (subv p u v k):=by
 refine⟨qB hp hu.ok.len hv.ok.len,fun j hj=>?_⟩;refine(qL hu.ok.len hv.ok.len (by omega)).trans (Cg.trans (.sub (hu.at_ j hj) (.mul (.refl _ _) (hv.at_ j hj))) ?_);rw[←dot_lin];exact dot_cg fun i hi=>(qL hu.ok.len hv.ok.len (by omega)).symm
theorem Graph.zero(hp:0 < p){n:Nat}{rows:L2}:Graph p w n rows (zv (w+n)):=
 ⟨zj hp _,fun j hj=> by rw[zh,dot_zero fun i _=> zh _ _]; exact .refl _ _⟩
theorem long_ok(hp:1 < p){rows:L2}(h:Rows p w rows){i:Nat}(hi:i < rows.length):qD p (w+rows.length) (qi rows i++zH rows.length i)∧(∀j,j < w→nth (qi rows i++zH rows.length i) j=nth (qi rows i) j)∧∀j,nth (qi rows i++zH rows.length i) (w+j)=if j=i then 1 else 0:=by
 have hr:=h _ (zx hi);have hm:qi rows i++zH rows.length i∈jl rows.length rows:=wQ.2 ⟨i,wX.2 hi,rfl⟩;refine⟨longs_ok hp h _ hm,fun j hj=> by rw[nth_app,hr.len,if_pos hj],fun j=>?_⟩;rw[nth_app,hr.len,if_neg (by omega),show w+j - w=j by omega,jY hi]
theorem long_graph(hp:1 < p){rows:L2}(h:Rows p w rows){i:Nat}(hi:i < rows.length):Graph p w rows.length rows (qi rows i++zH rows.length i):=by
 obtain⟨h1,h2,h3⟩:=long_ok hp h hi;refine⟨h1,fun j hj=>?_⟩;have e:dot (fun k=> nth (qi rows i++zH rows.length i) (w+k)) rows rows.length j=nth (qi rows i) j:=by
  rw[←dot_unit (m:=rows) (j:=j) hi];exact jK fun k _=> by simp only; rw[h3 k]
 rw[h2 j hj,e]; exact .refl _ _
theorem longs_sp(hp:1 < p){rows:L2}(h:Rows p w rows){u:L1}:Sp p (w+rows.length) (jl rows.length rows) u↔Graph p w rows.length rows u:=by
 have aM:0 < p:=by omega
 have hL:=longs_ok hp h;constructor
 ·intro hu
  induction hu with
  |zero=> exact .zero aM
  | @sub v r k hv hr ih=>
   obtain⟨i,hi,rfl⟩:=wQ.1 hr;exact ih.sub aM (long_graph hp h (wX.1 hi)) k
 ·have key:∀k,k≤rows.length→∀u,Graph p w rows.length rows u→(∀i,k≤i→i < rows.length→nth u (w+i)=0)→Sp p (w+rows.length) (jl rows.length rows) u:=by
   intro k;induction k with
   |zero=>
    intro _ u hu hz;have:u=zv (w+rows.length):=hu.ok.ext (zj aM _) fun j hj=> by
     rw[zh];by_cases q:j < w
     ·have:=hu.at_ j q
      rwa[dot_zero fun i hi=> hz i (by omega) hi]at this
     ·rw[show j=w+(j - w) by omega,hz (j - w) (by omega) (by omega)]; exact .refl _ _
    rw[this]; exact .zero
   |succ k ih=>
    intro hk u hu hz;obtain⟨h1,h2,h3⟩:=long_ok hp h (i:=k) (by omega);have hm:qi rows k++zH rows.length k∈jl rows.length rows:=wQ.2 ⟨k,wX.2 (by omega),rfl⟩;have hg:=hu.sub aM (long_graph hp h (i:=k) (by omega)) (nth u (w+k));refine(sub_iff aM hL hu.ok (.mem aM hL hm) (nth u (w+k))).1 (ih (by omega) _ hg fun i hi1 hi2=>?_);rw[zE hu.ok.len h1.len (by omega),h3 i];by_cases q:i=k
    ·subst q; rw[if_pos rfl]; simp
    ·rw[if_neg q,hz i (by omega) hi2]; simp
  intro hu;exact key rows.length (wE _) u hu fun i h1 h2=> by omega
theorem rest_tails(hp:0 < p){w n:Nat}:∀ {E:L2} (hE:Red p (w+n) E) {u:L1} (hu:qD p (w+n) u),(∀j,j < w→nth u j=0)→(rest p E u).drop w=rest p (zQ w E) (u.drop w)
 | [],_,u,_,_=> rfl
 |r::E,hE,u,hu,hz=> by
  have hE':Red p (w+n) E:=⟨fun t ht=> hE.ok t (wI _ ht),fun t ht=> hE.one t (wI _ ht),(vG.1 hE.ord).2⟩;have hr:=hE.ok r wG;have hlr:=(hE.one r wG).1;have hs:=qB hp hu.len hr.len (k:=nth u (ld r));show(rest p E (subv p u r (nth u (ld r)))).drop w=_;by_cases q:w≤ld r
  ·have et:zQ w (r::E)=r.drop w::zQ w E:=by simp[zQ,q]
   rw[et];have hz':∀j,j < w→nth (subv p u r (nth u (ld r))) j=0:=fun j hj=> by
    rw[zE hu.len hr.len (by omega),hz j hj,zp (r:=r) (j:=j) (by omega)]; simp
   rw[rest_tails hp hE' hs hz'];show _=rest p (zQ w E) (subv p (u.drop w) (r.drop w) (nth (u.drop w) (ld (r.drop w))));rw[ld_drop q (by rw[hr.len]; exact hlr),jZ,show w+(ld r - w)=ld r by omega]
   congr 1
   unfold subv;rw[List.drop_zipWith]
  ·have et:zQ w (r::E)=zQ w E:=by simp[zQ,q]
   have e:subv p u r (nth u (ld r))=u:=by rw[hz _ (by omega)]; exact sub_zero hp hu hr.len
   rw[et,e];exact rest_tails hp hE' hu hz
theorem drop_zv(w n:Nat):(zv (w+n)).drop w=zv n:=by simp[zv]
theorem qD.drop{n:Nat}{u:L1}(hu:qD p (w+n) u):qD p n (u.drop w):=⟨by rw[yN,hu.len]; omega,fun j hj=> by rw[jZ]; exact hu.rng _ (by omega)⟩
theorem kernel_sp(hp:1 < p){rows E:L2}(h:Rows p w rows)(hE:zN p (w+rows.length) (jl rows.length rows) E){c:L1}:Sp p rows.length (zQ w E) c↔qD p rows.length c∧∀j,j < w→Cg p (dot (nth c) rows rows.length j) 0:=by
 have aM:0 < p:=by omega
 have ht:=tails_red hE.red;constructor
 ·intro hc
  induction hc with
  |zero=> exact⟨zj aM _,fun j _=> by rw[dot_zero fun i _=> zh _ _]; exact .refl _ _⟩
  | @sub v r k hv hr ih=>
   have hr':=ht.ok r hr;refine⟨qB aM ih.1.len hr'.len,fun j hj=>?_⟩;obtain⟨s,hs,rfl⟩:=wQ.1 hr;obtain⟨s1,s2⟩:=uA.1 hs;have i4:w≤ld s:=by simpa using s2
   have hg:=(longs_sp hp h).1 ((hE.sp s).1 (.mem aM hE.red.ok s1));have h1:=hg.at_ j hj;rw[zp (by omega)]at h1;have h2:Cg p (dot (nth (s.drop w)) rows rows.length j) 0:=by
    refine Cg.trans ?_ h1.symm;rw[show dot (nth (s.drop w)) rows rows.length j=dot (fun i=> nth s (w+i)) rows rows.length j from jK fun i _=> by rw[jZ]];exact .refl _ _
   refine Cg.trans (dot_cg fun i hi=> qL ih.1.len hr'.len hi) ?_;rw[dot_lin];exact(Cg.sub (ih.2 j hj) (.mul (.refl _ k) h2)).trans ⟨0,by simp⟩
 ·rintro⟨hc,hd⟩
  have hu:Graph p w rows.length rows (zv w++c):=by
   have e:∀i,nth (zv w++c) (w+i)=nth c i:=fun i=> by rw[nth_app,show(zv w).length=w by simp[zv],if_neg (by omega),show w+i - w=i by omega]
   have e0:∀j,j < w→nth (zv w++c) j=0:=fun j hj=> by rw[nth_app,show(zv w).length=w by simp[zv],if_pos hj,zh]
   refine⟨⟨by rw[wR,hc.len]; simp[zv],fun j hj=>?_⟩,fun j hj=>?_⟩
   ·by_cases q:j < w
    ·rw[e0 j q]; omega
    ·rw[show j=w+(j - w) by omega,e]; exact hc.rng _ (by omega)
   ·rw[e0 j hj,show dot (fun i=> nth (zv w++c) (w+i)) rows rows.length j=dot (nth c) rows rows.length j from jK fun i _=> by simp only; rw[e]]
    exact(hd j hj).symm
  have hS:=(hE.sp _).2 ((longs_sp hp h).2 hu);have hz:=(jP aM hE.red hu.ok).2 hS;have e1:=rest_tails aM hE.red hu.ok fun j hj=> by rw[nth_app,show(zv w).length=w by simp[zv],if_pos hj,zh]
  have e2:(zv w++c).drop w=c:=by rw[List.drop_append_of_le_length (by simp[zv])]; simp[zv]
  rw[hz,drop_zv,e2]at e1;exact(jP aM ht hc).1 e1.symm
end
end Rv
namespace Rv
section
variable {p:Int} {w:Nat}
theorem Sp.split(hp:0 < p){A B:L2}(hA:Rows p w A)(hB:Rows p w B){v:L1}(hv:Sp p w (A++B) v):∃a b,Sp p w A a∧Sp p w B b∧v=subv p a b (-1):=by
 have hz:=zj hp w;induction hv with
 |zero=> exact⟨_,_,.zero,.zero,(hz.ext (qB hp hz.len hz.len) fun j hj=>((qL hz.len hz.len hj).trans (by rw[zh]; exact⟨0,by simp⟩)).symm)⟩
 | @sub v r k hv hr ih=>
  obtain⟨a,b,ha,hb,rfl⟩:=ih;have ao:=ha.ok hp hA;have bo:=hb.ok hp hB;have so:=qB hp ao.len bo.len (k:= -1);rcases wN.1 hr with q|q
  ·have ro:=hA r q
   have aro:=qB hp ao.len ro.len (k:=k);refine⟨_,b,.sub k ha q,hb,(qB hp so.len ro.len).ext (qB hp aro.len bo.len) fun j hj=>?_⟩;refine(qL so.len ro.len hj).trans (Cg.trans (.sub (qL ao.len bo.len hj) (.refl _ _)) (Cg.symm ((qL aro.len bo.len hj).trans (Cg.trans (.sub (qL ao.len ro.len hj) (.refl _ _)) ⟨0,by grind⟩))))
  ·have ro:=hB r q
   have bro:=qB hp bo.len ro.len (k:=k);refine⟨a,_,ha,.sub k hb q,(qB hp so.len ro.len).ext (qB hp ao.len bro.len) fun j hj=>?_⟩;refine(qL so.len ro.len hj).trans (Cg.trans (.sub (qL ao.len bo.len hj) (.refl _ _)) (Cg.symm ((qL ao.len bro.len hj).trans (Cg.trans (.sub (.refl _ _) (.mul (.refl _ _) (qL bo.len ro.len hj))) ⟨0,by grind⟩))))
theorem dot_sp(hp:0 < p){A:L2}(hA:Rows p w A){f:Nat→Int}{v:L1}(hv:qD p w v)(h:∀j,j < w→Cg p (nth v j) (dot f A A.length j)):Sp p w A v:=by
 have key:∀n,n≤A.length→∃u,Sp p w A u∧∀j,j < w→Cg p (nth u j) (dot f A n j):=by
  intro n;induction n with
  |zero=> exact fun _=>⟨zv w,.zero,fun j hj=> by rw[zh]; exact .refl _ _⟩
  |succ n ih=>
   intro hn;obtain⟨u,h1,h2⟩:=ih (by omega);have hm:A[n]∈A:=wC (by omega);refine⟨_,.sub (-(f n)) h1 hm,fun j hj=>(qL (h1.ok hp hA).len (hA _ hm).len hj).trans ?_⟩;have e:dot f A (n+1) j=dot f A n j+f n*nth (qi A n) j:=rfl;rw[e,qC (show n < A.length by omega)];obtain⟨m,hm2⟩:=h2 j hj;exact⟨m,by rw[hm2]; grind⟩
 obtain⟨u,h1,h2⟩:=key A.length (wE _);have:v=u:=hv.ext (h1.ok hp hA) fun j hj=>(h j hj).trans (h2 j hj).symm;rw[this]; exact h1
end
end Rv
namespace Rv
section
variable {p:Int} {w n:Nat}
theorem sub_len:∀ {a b:List Nat},a.Pairwise (·< ·)→b.Pairwise (·< ·)→(∀x∈a,x∈b)→a.length≤b.length
 | [],b,_,_,_=> vD _
 |x::a,[],_,_,h=> absurd (h x (wG ..)) (by simp)
 |x::a,y::b,ha,hb,h=> by
  obtain⟨h1,h2⟩:=vG.1 ha;obtain⟨k1,k2⟩:=vG.1 hb;rw[vF,vF];refine Nat.succ_le_succ (sub_len h2 k2 fun z hz=>?_);have hyx:y≤x:=by
   rcases vA.1 (h x (wG ..))with q|q
   ·omega
   ·have:=k1 x q; omega
  rcases vA.1 (h z (wI _ hz))with q|q
  ·have:=h1 z hz; omega
  ·exact q
theorem red_sub(hp:0 < p){A B:L2}(hA:Red p w A)(hB:Red p w B)(h:∀v∈A,Sp p w B v):A.length≤B.length:=by
 have:=sub_len hA.leads hB.leads fun x hx=> by
  obtain⟨r,hr,rfl⟩:=wQ.1 hx;obtain⟨s,hs,e⟩:=hB.lead hp (h r hr) (hA.one r hr).1;exact wQ.2 ⟨s,hs,e⟩
 simpa using this
end
end Rv
namespace Rv
set_option maxRecDepth 10000
end Rv
namespace Rv
set_option maxRecDepth 10000
end Rv
