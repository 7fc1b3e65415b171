/- The plain law: what the typed functions answer: part 1 -/
import Derived.Test.YtadnnniccgdigaaGreatPbs2
set_option linter.unusedVariables false
set_option linter.unusedSimpArgs false
namespace Rv
theorem ob.{u,v} {α:Type u} {β:Type v} (a:α) (f:α→Option β):(some a).bind f=f a:=rfl
def Cg(p a b:Int):Prop:=∃m,a=b+p*m
theorem Cg.refl(p a:Int):Cg p a a:=⟨0,by simp⟩
theorem Cg.symm{p a b:Int}(h:Cg p a b):Cg p b a:=by
 obtain⟨m,rfl⟩:=h; exact⟨-m,by grind⟩
theorem Cg.trans{p a b c:Int}(h:Cg p a b)(k:Cg p b c):Cg p a c:=by
 obtain⟨m,rfl⟩:=h; obtain⟨n,rfl⟩:=k; exact⟨n+m,by grind⟩
theorem Cg.add{p a b c d:Int}(h:Cg p a b)(k:Cg p c d):Cg p (a+c) (b+d):=by
 obtain⟨m,rfl⟩:=h; obtain⟨n,rfl⟩:=k; exact⟨m+n,by grind⟩
theorem Cg.sub{p a b c d:Int}(h:Cg p a b)(k:Cg p c d):Cg p (a - c) (b - d):=by
 obtain⟨m,rfl⟩:=h; obtain⟨n,rfl⟩:=k; exact⟨m - n,by grind⟩
theorem Cg.mul{p a b c d:Int}(h:Cg p a b)(k:Cg p c d):Cg p (a*c) (b*d):=by
 obtain⟨m,rfl⟩:=h; obtain⟨n,rfl⟩:=k; exact⟨b*n+m*d+p*(m*n),by grind⟩
theorem Cg.mod(p a:Int):Cg p (a% p) a:=⟨-(a/p),by have:=Int.emod_add_mul_ediv a p; grind⟩
theorem Cg.eq{p a b:Int}(h:Cg p a b)(a0:0≤a)(a1:a < p)(b0:0≤b)(b1:b < p):a=b:=by
 obtain⟨m,hm⟩:=h;have:a% p=b% p:=by rw[hm,Int.add_mul_emod_self_left]
 rwa[Int.emod_eq_of_lt a0 a1,Int.emod_eq_of_lt b0 b1]at this
theorem Cg.emod{p a b:Int}(h:Cg p a b):a% p=b% p:=by
 obtain⟨m,rfl⟩:=h; rw[Int.add_mul_emod_self_left]
def nth(v:List Int)(j:Nat):Int:=v.getD j 0
theorem qU{v:List Int}{j:Nat}(h:j < v.length):nth v j=v[j]:=by simp[nth,h]
theorem nth_out{v:List Int}{j:Nat}(h:v.length≤j):nth v j=0:=by simp[nth,h]
theorem nth_ext{u v:List Int}(hl:u.length=v.length)(h:∀j,j < u.length→nth u j=nth v j):u=v:=by
 apply uC hl;intro j h1 h2;have:=h j h1
 rwa[qU h1,qU h2]at this
structure qJ (p:Int) (w:Nat) (v:List Int):Prop where
 len:v.length=w
 rng:∀j,j < w→0≤nth v j∧nth v j < p
theorem qJ.ext{p:Int}{w:Nat}{u v:List Int}(hu:qJ p w u)(hv:qJ p w v)(h:∀j,j < w→Cg p (nth u j) (nth v j)):u=v:=
 nth_ext (hu.len.trans hv.len.symm) fun j hj=> by
  rw[hu.len]at hj;exact(h j hj).eq (hu.rng j hj).1 (hu.rng j hj).2 (hv.rng j hj).1 (hv.rng j hj).2
def zv(w:Nat):List Int:=List.replicate w 0
theorem zm(w j:Nat):nth (zv w) j=0:=by
 rcases wW j w with h|h
 ·simp[nth,zv,h]
 ·exact nth_out (by simpa[zv]using h)
theorem zM{p:Int}(hp:0 < p)(w:Nat):qJ p w (zv w):=⟨by simp[zv],fun j _=> by rw[zm]; omega⟩
def subv(p:Int)(v u:List Int)(k:Int):List Int:=List.zipWith (fun a b=>(a - k*b)% p) v u
theorem zn{p:Int}{w:Nat}{v u:List Int}{k:Int}(hv:v.length=w)(hu:u.length=w){j:Nat}(hj:j < w):nth (subv p v u k) j=(nth v j - k*nth u j)% p:=by
 have h1:j < (subv p v u k).length:=by simp[subv]; omega
 rw[qU h1,qU (show j < v.length by omega),qU (show j < u.length by omega)];simp[subv]
theorem qX{p:Int}{w:Nat}{v u:List Int}{k:Int}(hv:v.length=w)(hu:u.length=w){j:Nat}(hj:j < w):Cg p (nth (subv p v u k) j) (nth v j - k*nth u j):=by
 rw[zn hv hu hj]; exact .mod _ _
theorem qT{p:Int}(hp:0 < p){w:Nat}{v u:List Int}{k:Int}(hv:v.length=w)(hu:u.length=w):qJ p w (subv p v u k):=
 ⟨by simp[subv,hv,hu],fun j hj=> by rw[zn hv hu hj]; exact⟨Int.emod_nonneg _ (by omega),Int.emod_lt_of_pos _ hp⟩⟩
inductive Sp (p:Int) (w:Nat) (R:List (List Int)):List Int→Prop
 |zero:Sp p w R (zv w)
 |sub {v r:List Int} (k:Int):Sp p w R v→r∈R→Sp p w R (subv p v r k)
abbrev Rows(p:Int)(w:Nat)(R:List (List Int)):Prop:=∀r∈R,qJ p w r
section
variable {p:Int} {w:Nat} {R:List (List Int)}
theorem Sp.ok(hp:0 < p)(hR:Rows p w R){v:List Int}(h:Sp p w R v):qJ p w v:=by
 induction h with
 |zero=> exact zM hp w
 |sub k _ hr ih=> exact qT hp ih.len (hR _ hr).len
theorem Sp.lin(hp:0 < p)(hR:Rows p w R){u v:List Int}(hu:Sp p w R u)(hv:Sp p w R v)(k:Int):Sp p w R (subv p u v k):=by
 induction hv generalizing u k with
 |zero=>
  have hu':=hu.ok hp hR;have:subv p u (zv w) k=u:=(qT hp hu'.len (zM hp w).len).ext hu' fun j hj=>(qX hu'.len (zM hp w).len hj).trans (by rw[zm]; exact⟨0,by grind⟩);rw[this]; exact hu
 | @sub v r k' hv hr ih=>
  have hu':=hu.ok hp hR;have hv':=hv.ok hp hR;have hr':=hR _ hr;have h1:=ih hu k;have h1':=h1.ok hp hR;have:subv p u (subv p v r k') k=subv p (subv p u v k) r (-(k*k')):=(qT hp hu'.len (qT hp hv'.len hr'.len).len).ext (qT hp h1'.len hr'.len) fun j hj=> by
   refine(qX hu'.len (qT hp hv'.len hr'.len).len hj).trans (Cg.trans (.sub (.refl _ _) (.mul (.refl _ _) (qX hv'.len hr'.len hj))) (Cg.symm ((qX h1'.len hr'.len hj).trans (Cg.trans (.sub (qX hu'.len hv'.len hj) (.refl _ _)) ?_))));exact⟨0,by grind⟩
  rw[this];exact .sub _ h1 hr
theorem Sp.mem(hp:0 < p)(hR:Rows p w R){r:List Int}(hr:r∈R):Sp p w R r:=by
 have h:=Sp.sub (-1) (Sp.zero (p:=p) (w:=w) (R:=R)) hr;have hr':=hR _ hr;have:subv p (zv w) r (-1)=r:=(qT hp (zM hp w).len hr'.len).ext hr' fun j hj=>(qX (zM hp w).len hr'.len hj).trans (by rw[zm]; exact⟨0,by grind⟩)
 rwa[this]at h
theorem Sp.scale(hp:0 < p)(hR:Rows p w R){v:List Int}(hv:Sp p w R v)(k:Int):Sp p w R (subv p (zv w) v k):=Sp.lin hp hR .zero hv k
theorem Sp.into{T:List (List Int)}(hp:0 < p)(hT:Rows p w T)(h:∀r∈R,Sp p w T r){v:List Int}(hv:Sp p w R v):Sp p w T v:=by
 induction hv with
 |zero=> exact .zero
 |sub k _ hr ih=> exact Sp.lin hp hT ih (h _ hr) k
theorem Sp.mono{T:List (List Int)}(h:∀r∈R,r∈T){v:List Int}(hv:Sp p w R v):Sp p w T v:=by
 induction hv with
 |zero=> exact .zero
 |sub k _ hr ih=> exact .sub k ih (h _ hr)
theorem sub_back(hp:0 < p){v u:List Int}(hv:qJ p w v)(hu:qJ p w u)(k:Int):subv p (subv p v u k) u (-k)=v:=
 (qT hp (qT hp hv.len hu.len).len hu.len).ext hv fun j hj=>(qX (qT hp hv.len hu.len).len hu.len hj).trans (Cg.trans (.sub (qX hv.len hu.len hj) (.refl _ _)) ⟨0,by grind⟩)
theorem sub_iff(hp:0 < p){T:List (List Int)}(hT:Rows p w T){v u:List Int}(hv:qJ p w v)(hu:Sp p w T u)(k:Int):Sp p w T (subv p v u k)↔Sp p w T v:=
 ⟨fun h=> by have:=Sp.lin hp hT h hu (-k); rwa[sub_back hp hv (hu.ok hp hT)]at this,fun h=> Sp.lin hp hT h hu k⟩
end
def ld(r:List Int):Nat:=r.findIdx (fun x=> x != 0)
theorem zx{r:List Int}{j:Nat}(h:j < ld r):nth r j=0:=by
 have hj:j < r.length:=Nat.lt_of_lt_of_le h List.findIdx_le_length;have:=List.not_of_lt_findIdx h;rw[qU hj];simpa using this
theorem ld_ne{r:List Int}(h:ld r < r.length):nth r (ld r)≠0:=by
 rw[qU h];have h':(r.findIdx fun x=> x != 0) < r.length:=h;have:=List.findIdx_getElem (w:=h');intro e;have e':r[r.findIdx fun x=> x != 0]=0:=e;rw[e']at this;simp at this
theorem ld_of{r:List Int}{l:Nat}(h0:∀j,j < l→nth r j=0)(h1:nth r l≠0):ld r=l:=by
 have hl:l < r.length:=by
  rcases wW l r.length with h|h
  ·exact h
  ·exact absurd (nth_out h) h1
 rcases yL (ld r) l with h|h|h
 ·exact absurd (h0 _ h) (ld_ne (by omega))
 ·exact h
 ·exact absurd (zx h) h1
structure Red (p:Int) (w:Nat) (R:List (List Int)):Prop where
 ok:Rows p w R
 one:∀r∈R,ld r < w∧nth r (ld r)=1
 ord:R.Pairwise fun r s=> ld r < ld s∧nth r (ld s)=0
def comb(R:List (List Int))(v:List Int)(j:Nat):Int:=match R with
 | []=> 0
 |r::R=> nth v (ld r)*nth r j+comb R v j
theorem comb_zero{R:List (List Int)}{v:List Int}{j:Nat}(h:∀r∈R,nth v (ld r)=0∨nth r j=0):comb R v j=0:=by
 induction R with
 |nil=> rfl
 |cons r R ih=>
  unfold comb;rw[ih fun s hs=> h s (wH _ hs)];rcases h r wF with h|h <;> rw[h] <;> simp
theorem comb_lin{p:Int}{w:Nat}{v u:List Int}{k:Int}(hv:v.length=w)(hu:u.length=w){j:Nat}:∀ {R:List (List Int)},(∀r∈R,ld r < w)→Cg p (comb R (subv p v u k) j) (comb R v j - k*comb R u j)
 | [],_=>⟨0,by simp[comb]⟩
 |r::R,h=> by
  unfold comb;refine Cg.trans (.add (.mul (qX hv hu (h r wF)) (.refl _ _)) (comb_lin hv hu fun s hs=> h s (wH _ hs))) ⟨0,by grind⟩
theorem comb_self{p:Int}{w:Nat}{j:Nat}:∀ {R:List (List Int)} (h:Red p w R) {s:List Int} (hs:s∈R),comb R s j=nth s j
 |r::R,h,s,hs=> by
  have hp:=vN.1 h.ord;unfold comb;rcases wY.1 hs with rfl|hs
  ·rw[(h.one _ wF).2,comb_zero fun t ht=> .inl (hp.1 t ht).2]; simp
  ·rw[zx (hp.1 s hs).1,comb_self ⟨fun t ht=> h.ok t (wH _ ht),fun t ht=> h.one t (wH _ ht),hp.2⟩ hs]; simp
theorem Red.coord{p:Int}{w:Nat}{R:List (List Int)}(hp:0 < p)(h:Red p w R){v:List Int}(hv:Sp p w R v)(j:Nat)(hj:j < w):Cg p (nth v j) (comb R v j):=by
 induction hv with
 |zero=> rw[zm,comb_zero fun r _=> .inl (zm _ _)]; exact .refl _ _
 | @sub v r k hv hr ih=>
  have hv':=hv.ok hp h.ok;have hr':=h.ok _ hr;refine(qX hv'.len hr'.len hj).trans (Cg.trans (.sub ih (.refl _ _)) (Cg.symm ((comb_lin hv'.len hr'.len fun s hs=>(h.one s hs).1).trans ?_)));rw[comb_self h hr]; exact .refl _ _
theorem Red.lead{p:Int}{w:Nat}{R:List (List Int)}(hp:0 < p)(h:Red p w R){v:List Int}(hv:Sp p w R v)(hl:ld v < w):∃r∈R,ld r=ld v:=by
 refine vQ fun hn=>?_;have hv':=hv.ok hp h.ok;have hc:=h.coord hp hv (ld v) hl;rw[comb_zero fun r hr=>?_]at hc
 ·have:=hc.eq (hv'.rng _ hl).1 (hv'.rng _ hl).2 (yC _) hp
  exact ld_ne (by rw[hv'.len]; exact hl) this
 ·rcases yL (ld r) (ld v)with q|q|q
  ·exact .inl (zx q)
  ·exact absurd ⟨r,hr,q⟩ hn
  ·exact .inr (zx q)
theorem sorted_eq:∀ {a b:List Nat},a.Pairwise (·< ·)→b.Pairwise (·< ·)→(∀x,x∈a↔x∈b)→a=b
 | [],[],_,_,_=> rfl
 | [],y::b,_,_,h=> by have:=(h y).2 wF; simp at this
 |x::a,[],_,_,h=> by have:=(h x).1 wF; simp at this
 |x::a,y::b,ha,hb,h=> by
  obtain⟨a1,a2⟩:=vN.1 ha;obtain⟨b1,b2⟩:=vN.1 hb;have e:x=y:=by
   rcases wY.1 ((h x).1 wF)with q|q
   ·exact q
   ·rcases wY.1 ((h y).2 wF)with q'|q'
    ·exact q'.symm
    ·have:=b1 x q; have:=a1 y q'; omega
  subst e;rw[sorted_eq a2 b2 fun z=>⟨fun hz=>?_,fun hz=>?_⟩]
  ·rcases wY.1 ((h z).1 (wH _ hz))with rfl|q
   ·exact absurd (a1 _ hz) (Nat.lt_irrefl _)
   ·exact q
  ·rcases wY.1 ((h z).2 (wH _ hz))with rfl|q
   ·exact absurd (b1 _ hz) (Nat.lt_irrefl _)
   ·exact q
theorem Red.leads{p:Int}{w:Nat}{R:List (List Int)}(h:Red p w R):(R.map ld).Pairwise (·< ·):=by
 rw[List.pairwise_map];exact h.ord.imp fun q=> q.1
theorem Red.unique{p:Int}{w:Nat}{R S:List (List Int)}(hp:0 < p)(hR:Red p w R)(hS:Red p w S)(h:∀v,Sp p w R v↔Sp p w S v):R=S:=by
 have hL:R.map ld=S.map ld:=sorted_eq hR.leads hS.leads fun x=> by
  constructor
  ·intro hx
   obtain⟨r,hr,rfl⟩:=wL.1 hx;obtain⟨s,hs,e⟩:=hS.lead hp ((h r).1 (.mem hp hR.ok hr)) (hR.one r hr).1;exact wL.2 ⟨s,hs,e⟩
  ·intro hx
   obtain⟨r,hr,rfl⟩:=wL.1 hx;obtain⟨s,hs,e⟩:=hR.lead hp ((h r).2 (.mem hp hS.ok hr)) (hS.one r hr).1;exact wL.2 ⟨s,hs,e⟩
 have hlen:R.length=S.length:=by have:=congrArg List.length hL; simpa using this
 apply uC hlen;intro i h1 h2;have hr:=wB h1;have hs:=wB h2;have r1:=hR.ok _ hr;have s1:=hS.ok _ hs;have ldq:∀k (a:k < R.length) (b:k < S.length),ld R[k]=ld S[k]:=fun k a b=> by
  have:(R.map ld)[k]'(by simpa using a)=(S.map ld)[k]'(by simpa using b):=by simp only[hL]
  simpa using this
 -- their difference
 have hd:Sp p w R (subv p R[i] S[i] 1):=Sp.lin hp hR.ok (.mem hp hR.ok hr) ((h _).2 (.mem hp hS.ok hs)) 1;have hdk:=hd.ok hp hR.ok;have val:∀ (T:List (List Int)) (hT:Red p w T) (a b:Nat) (ha:a < T.length) (hb:b < T.length),nth T[a] (ld T[b])=if a=b then 1 else 0:=fun T hT a b ha hb=> by
  rcases yL a b with q|q|q
  ·rw[if_neg (by omega)]; exact(List.pairwise_iff_getElem.1 hT.ord a b ha hb q).2
  ·subst q; rw[if_pos rfl]; exact(hT.one _ (wB ha)).2
  ·rw[if_neg (by omega)]; exact zx (List.pairwise_iff_getElem.1 hT.ord b a hb ha q).1
 refine r1.ext s1 fun j hj=>?_;have hc:=hR.coord hp hd j hj;rw[comb_zero fun r hr'=> .inl ?_]at hc
 ·have:=(qX r1.len s1.len hj).symm.trans hc
  obtain⟨m,hm⟩:=this;exact⟨m,by grind⟩
 ·obtain⟨k,hk,rfl⟩:=wN hr'
  have hkw:=(hR.one _ (wB hk)).1;have e1:=val R hR i k h1 hk;have e2:=val S hS i k h2 (by omega);rw[←ldq k hk (by omega)]at e2;have hcg:=qX (p:=p) (k:=1) r1.len s1.len hkw;rw[e1,e2]at hcg;refine hcg.trans ⟨0,by grind⟩|>.eq (hdk.rng _ hkw).1 (hdk.rng _ hkw).2 (yC _) hp
end Rv
namespace Rv
section
variable {p:Int} {w:Nat}
theorem sub_zero(hp:0 < p){v u:List Int}(hv:qJ p w v)(hu:u.length=w):subv p v u 0=v:=
 (qT hp hv.len hu).ext hv fun j hj=>(qX hv.len hu hj).trans ⟨0,by grind⟩
def scl(p:Int)(v:List Int)(k:Int):List Int:=v.map fun x=> x*k% p
theorem scl_sub(hp:0 < p){v:List Int}(hv:qJ p w v)(k:Int):scl p v k=subv p (zv w) v (-k):=by
 have hl:(scl p v k).length=w:=by simp[scl,hv.len]
 refine nth_ext (hl.trans (qT hp (zM hp w).len hv.len).len.symm) fun j hj=>?_;rw[hl]at hj;rw[zn (zM hp w).len hv.len hj,zm,qU (by rw[hl]; exact hj),qU (show j < v.length by rw[hv.len]; exact hj)];simp only[scl,List.getElem_map]
 congr 1; grind
theorem nth_scl(hp:0 < p){v:List Int}(hv:qJ p w v)(k:Int){j:Nat}(hj:j < w):Cg p (nth (scl p v k) j) (nth v j*k):=by
 rw[scl_sub hp hv];exact(qX (zM hp w).len hv.len hj).trans (by rw[zm]; exact⟨0,by grind⟩)
theorem scl_ok(hp:0 < p){v:List Int}(hv:qJ p w v)(k:Int):qJ p w (scl p v k):=by
 rw[scl_sub hp hv]; exact qT hp (zM hp w).len hv.len
theorem scl_back(hp:0 < p){v:List Int}(hv:qJ p w v){k m:Int}(hk:Cg p (m*k) 1):subv p (zv w) (scl p v k) (-m)=v:=
 (qT hp (zM hp w).len (scl_ok hp hv k).len).ext hv fun j hj=>(qX (zM hp w).len (scl_ok hp hv k).len hj).trans (by
  rw[zm];have h1:=Cg.mul (Cg.refl p m) (nth_scl hp hv k hj);have h2:=Cg.mul hk (Cg.refl p (nth v j));obtain⟨a,ha⟩:=h1;obtain⟨b,hb⟩:=h2;exact⟨a+b,by grind⟩)
def rest(p:Int)(R:List (List Int))(v:List Int):List Int:=R.foldl (fun v r=> subv p v r (nth v (ld r))) v
theorem zV(hp:0 < p):∀ {R:List (List Int)} (hR:Rows p w R) {v:List Int} (hv:qJ p w v),qJ p w (rest p R v)
 | [],_,v,hv=> hv
 |r::R,hR,v,hv=> zV hp (R:=R) (fun s hs=> hR s (wH _ hs)) (qT hp hv.len (hR r wF).len)
theorem jb(hp:0 < p){T:List (List Int)}(hT:Rows p w T):∀ {R:List (List Int)} (hR:Rows p w R) (h:∀r∈R,Sp p w T r) {v:List Int} (hv:qJ p w v),Sp p w T (rest p R v)↔Sp p w T v
 | [],_,_,v,hv=> yE
 |r::R,hR,h,v,hv=> by
  have h1:=jb hp hT (R:=R) (fun s hs=> hR s (wH _ hs)) (fun s hs=> h s (wH _ hs)) (qT hp hv.len (hR r wF).len (k:=nth v (ld r)));exact h1.trans (sub_iff hp hT hv (h r wF) _)
theorem rest_keep(hp:0 < p){j:Nat}(hj:j < w):∀ {R:List (List Int)} (hR:Rows p w R) (h:∀r∈R,nth r j=0) {v:List Int} (hv:qJ p w v),nth v j=0→nth (rest p R v) j=0
 | [],_,_,v,hv,h0=> h0
 |r::R,hR,h,v,hv,h0=> by
  refine rest_keep hp hj (R:=R) (fun s hs=> hR s (wH _ hs)) (fun s hs=> h s (wH _ hs)) (qT hp hv.len (hR r wF).len) ?_;rw[zn hv.len (hR r wF).len hj,h0,h r wF]; simp
theorem rest_lead(hp:0 < p):∀ {R:List (List Int)} (hR:Red p w R) {v:List Int} (hv:qJ p w v),∀r∈R,nth (rest p R v) (ld r)=0
 | [],_,v,hv,r,hr=> by cases hr
 |s::R,hR,v,hv,r,hr=> by
  obtain⟨o1,o2⟩:=vN.1 hR.ord;have hR':Red p w R:=⟨fun t ht=> hR.ok t (wH _ ht),fun t ht=> hR.one t (wH _ ht),o2⟩;have hs:=hR.ok s wF;have hv':qJ p w (subv p v s (nth v (ld s))):=qT hp hv.len hs.len;rcases wY.1 hr with rfl|hr
  ·refine rest_keep hp (hR.one _ wF).1 hR'.ok (fun t ht=> zx (o1 t ht).1) hv' ?_
   rw[zn hv.len hs.len (hR.one _ wF).1,(hR.one _ wF).2]; simp
  ·exact rest_lead hp hR' hv' r hr
def insF(p:Int)(own:List Int)(a:Nat)(o:List Int):List Int:=subv p o own (nth o a)
def ins(p:Int)(own:List Int)(a:Nat):List (List Int)→List (List Int)
 | []=>[own]
 |o::out=> if a < ld o then own::insF p own a o::out.map (insF p own a)else insF p own a o::ins p own a out
theorem mem_ins{own:List Int}{a:Nat}{x:List Int}:∀ {out:List (List Int)},x∈ins p own a out↔x=own∨∃o∈out,x=insF p own a o
 | []=> by simp[ins]
 |o::out=> by
  unfold ins;split
  ·simp only[wY,wL]
   constructor
   ·rintro(h|h|⟨q,h1,h2⟩)
    ·exact .inl h
    ·exact .inr ⟨o,.inl rfl,h⟩
    ·exact .inr ⟨q,.inr h1,h2.symm⟩
   ·rintro(h|⟨q,rfl|h1,h2⟩)
    ·exact .inl h
    ·exact .inr (.inl h2)
    ·exact .inr (.inr ⟨q,h1,h2.symm⟩)
  ·simp only[wY,mem_ins (out:=out)]
   constructor
   ·rintro(h|h|⟨q,h1,h2⟩)
    ·exact .inr ⟨o,.inl rfl,h⟩
    ·exact .inl h
    ·exact .inr ⟨q,.inr h1,h2⟩
   ·rintro(h|⟨q,rfl|h1,h2⟩)
    ·exact .inr (.inl h)
    ·exact .inl h2
    ·exact .inr (.inr ⟨q,h1,h2⟩)
structure New (p:Int) (w:Nat) (R:List (List Int)) (own:List Int) (a:Nat):Prop where
 ok:qJ p w own
 lt:a < w
 z:∀j,j < a→nth own j=0
 one:nth own a=1
 zl:∀r∈R,nth own (ld r)=0
theorem New.ld{R:List (List Int)}{own:List Int}{a:Nat}(n:New p w R own a):Rv.ld own=a:=ld_of n.z (by rw[n.one]; decide)
theorem xB(hp:1 < p){R:List (List Int)}{own:List Int}{a:Nat}(hR:Red p w R)(n:New p w R own a){o:List Int}(ho:o∈R):qJ p w (insF p own a o)∧ld (insF p own a o)=ld o∧nth (insF p own a o) (ld o)=1∧nth (insF p own a o) a=0∧ld o≠a:=by
 have hok:=hR.ok o ho;have hone:=hR.one o ho;have hne:Rv.ld o≠a:=fun e=> by have:=n.zl o ho; rw[e,n.one]at this; cases this
 have h1:nth (insF p own a o) (Rv.ld o)=1:=by
  unfold insF;rw[zn hok.len n.ok.len hone.1,hone.2,n.zl o ho];simp only[Int.mul_zero,Int.sub_zero];exact Int.emod_eq_of_lt (by decide) hp
 refine⟨qT (by omega) hok.len n.ok.len,?_,h1,?_,hne⟩
 ·refine ld_of (fun j hj=>?_) (by rw[h1]; decide)
  have hjw:j < w:=by omega
  unfold insF;rw[zn hok.len n.ok.len hjw,zx hj];rcases Nat.lt_or_gt_of_ne hne with q|q
  ·rw[n.z j (by omega)]; simp
  ·rw[zx q]; simp
 ·unfold insF
  rw[zn hok.len n.ok.len n.lt,n.one]; simp
theorem insF_zero(hp:1 < p){R:List (List Int)}{own:List Int}{a:Nat}(hR:Red p w R)(n:New p w R own a){o s:List Int}(ho:o∈R)(hs:s∈R)(h:nth o (ld s)=0):nth (insF p own a o) (ld s)=0:=by
 unfold insF;rw[zn (hR.ok o ho).len n.ok.len (hR.one s hs).1,h,n.zl s hs]; simp
theorem ins_ord(hp:1 < p){R:List (List Int)}{own:List Int}{a:Nat}(hR:Red p w R)(n:New p w R own a):∀ {out:List (List Int)},(∀o∈out,o∈R)→out.Pairwise (fun r s=> ld r < ld s∧nth r (ld s)=0)→(ins p own a out).Pairwise fun r s=> ld r < ld s∧nth r (ld s)=0
 | [],_,_=> by simp[ins]
 |o::out,hm,ho=> by
  obtain⟨o1,o2⟩:=vN.1 ho;have hoR:=hm o wF;have hmap:∀ {l:List (List Int)},(∀x∈l,x∈R)→l.Pairwise (fun r s=> Rv.ld r < Rv.ld s∧nth r (Rv.ld s)=0)→(l.map (insF p own a)).Pairwise fun r s=> Rv.ld r < Rv.ld s∧nth r (Rv.ld s)=0:=fun {l} hl hp'=> by
   rw[List.pairwise_map];refine hp'.imp_of_mem fun hr hs q=>?_;rw[(xB hp hR n (hl _ hr)).2.1,(xB hp hR n (hl _ hs)).2.1];exact⟨q.1,insF_zero hp hR n (hl _ hr) (hl _ hs) q.2⟩
  unfold ins;split
  ·rename_i ha
   rw[←wZ];refine vN.2 ⟨fun x hx=>?_,hmap hm ho⟩;obtain⟨q,hq,rfl⟩:=wL.1 hx;rw[(xB hp hR n (hm q hq)).2.1,n.ld];refine⟨?_,n.zl q (hm q hq)⟩;rcases wY.1 hq with rfl|hq
   ·exact ha
   ·have:=(o1 q hq).1; omega
  ·rename_i ha
   have hf:=xB hp hR n hoR;refine vN.2 ⟨fun x hx=>?_,ins_ord hp hR n (fun q hq=> hm q (wH _ hq)) o2⟩;rw[hf.2.1];rcases mem_ins.1 hx with rfl|⟨q,hq,rfl⟩
   ·rw[n.ld]; exact⟨by have:=hf.2.2.2.2; omega,hf.2.2.2.1⟩
   ·have hqR:=hm q (wH _ hq)
    rw[(xB hp hR n hqR).2.1];exact⟨(o1 q hq).1,insF_zero hp hR n hoR hqR (o1 q hq).2⟩
theorem ins_red(hp:1 < p){R:List (List Int)}{own:List Int}{a:Nat}(hR:Red p w R)(n:New p w R own a):Red p w (ins p own a R):=by
 refine⟨fun x hx=>?_,fun x hx=>?_,ins_ord hp hR n (fun _ h=> h) hR.ord⟩
 ·rcases mem_ins.1 hx with rfl|⟨q,hq,rfl⟩
  ·exact n.ok
  ·exact(xB hp hR n hq).1
 ·rcases mem_ins.1 hx with rfl|⟨q,hq,rfl⟩
  ·rw[n.ld]; exact⟨n.lt,n.one⟩
  ·have h:=xB hp hR n hq
   rw[h.2.1]; exact⟨(hR.one q hq).1,h.2.2.1⟩
structure zj (p:Int) (w:Nat) (rows out:List (List Int)):Prop where
 red:Red p w out
 sp:∀v,Sp p w out v↔Sp p w rows v
theorem zj.nil(p:Int)(w:Nat):zj p w [] []:=⟨⟨fun r h=>(nomatch h),fun r h=>(nomatch h),.nil⟩,fun v=> yE⟩
theorem zj.skip(hp:1 < p){rows out:List (List Int)}{row:List Int}(h:zj p w rows out)(hr:Rows p w rows)(hrow:qJ p w row)(h0:∀j,j < w→nth (rest p out row) j=0):zj p w (rows++[row]) out:=by
 have hz:rest p out row=zv w:=(zV (by omega) h.red.ok hrow).ext (zM (by omega) w) fun j hj=> by rw[h0 j hj,zm]; exact .refl _ _
 have hin:Sp p w out row:=(jb (by omega) h.red.ok h.red.ok (fun r hr=> .mem (by omega) h.red.ok hr) hrow).1 (by rw[hz]; exact .zero);refine⟨h.red,fun v=>⟨fun hv=>((h.sp v).1 hv).mono fun r hr=> vJ _ hr,fun hv=> hv.into (by omega) h.red.ok fun r hr'=>?_⟩⟩;rcases wK.1 hr' with q|q
 ·exact(h.sp r).2 (.mem (by omega) hr q)
 ·have:r=row:=by simpa using q
  rw[this]; exact hin
theorem zj.new(hp:1 < p){rows out:List (List Int)}{row:List Int}(h:zj p w rows out)(hrow:qJ p w row){a:Nat}(ha:a < w)(hz:∀j,j < a→nth (rest p out row) j=0){k:Int}(hk:Cg p (nth (rest p out row) a*k) 1):
  New p w out (scl p (rest p out row) k) a:=by
 have hp0:0 < p:=by omega
 have hrest:=zV hp0 h.red.ok hrow;have hown:=scl_ok hp0 hrest k;refine⟨hown,ha,fun j hj=>?_,?_,fun r hr'=>?_⟩
 ·have h1:=(nth_scl hp0 hrest k (show j < w by omega))
  rw[hz j hj]at h1;exact(h1.trans ⟨0,by grind⟩).eq (hown.rng _ (by omega)).1 (hown.rng _ (by omega)).2 (yC _) hp0
 ·exact((nth_scl hp0 hrest k ha).trans hk).eq (hown.rng _ ha).1 (hown.rng _ ha).2 (by decide) hp
 ·have hl:=(h.red.one r hr').1
  have h1:=nth_scl hp0 hrest k hl;rw[rest_lead hp0 h.red hrow r hr']at h1;exact(h1.trans ⟨0,by grind⟩).eq (hown.rng _ hl).1 (hown.rng _ hl).2 (yC _) hp0
theorem ins_len{own:List Int}{a:Nat}:∀ {out:List (List Int)},(ins p own a out).length=out.length+1
 | []=> rfl
 |o::out=> by
  unfold ins;split
  ·simp
  ·simp[ins_len (out:=out)]
theorem zj.put(hp:1 < p){rows out:List (List Int)}{row:List Int}(h:zj p w rows out)(hr:Rows p w rows)(hrow:qJ p w row){a:Nat}(ha:a < w)(hz:∀j,j < a→nth (rest p out row) j=0){k:Int}(hk:Cg p (nth (rest p out row) a*k) 1):
  zj p w (rows++[row]) (ins p (scl p (rest p out row) k) a out):=by
 have hp0:0 < p:=by omega
 have hrest:=zV hp0 h.red.ok hrow;have hown:=scl_ok hp0 hrest k;have n:New p w out (scl p (rest p out row) k) a:=h.new hp hrow ha hz hk;have hred:=ins_red hp h.red n;have hT:Rows p w (rows++[row]):=fun r hr'=> by
  rcases wK.1 hr' with q|q
  ·exact hr r q
  ·have:r=row:=by simpa using q
   rw[this]; exact hrow
 have hout:∀r∈out,Sp p w (rows++[row]) r:=fun r hr'=>((h.sp r).1 (.mem hp0 h.red.ok hr')).mono fun s hs=> vJ _ hs;have hro:Sp p w (rows++[row]) (scl p (rest p out row) k):=by
  rw[scl_sub hp0 hrest];exact((jb hp0 hT h.red.ok hout hrow).2 (.mem hp0 hT (vF _ wF))).scale hp0 hT _
 have hown':Sp p w (ins p (scl p (rest p out row) k) a out) (scl p (rest p out row) k):= .mem hp0 hred.ok (mem_ins.2 (.inl rfl));have hback:∀r∈out,Sp p w (ins p (scl p (rest p out row) k) a out) r:=fun r hr'=> by
  have h1:Sp p w (ins p (scl p (rest p out row) k) a out) (insF p (scl p (rest p out row) k) a r):= .mem hp0 hred.ok (mem_ins.2 (.inr ⟨r,hr',rfl⟩));exact(sub_iff hp0 hred.ok (h.red.ok r hr') hown' _).1 h1
 refine⟨hred,fun v=>⟨fun hv=> hv.into hp0 hT fun r hr'=>?_,fun hv=> hv.into hp0 hred.ok fun r hr'=>?_⟩⟩
 ·rcases mem_ins.1 hr' with rfl|⟨o,ho,rfl⟩
  ·exact hro
  ·exact Sp.lin hp0 hT (hout o ho) hro _
 ·rcases wK.1 hr' with q|q
  ·exact((h.sp r).2 (.mem hp0 hr q)).into hp0 hred.ok hback
  ·have e:r=row:=by simpa using q
   rw[e];refine(jb hp0 hred.ok h.red.ok hback hrow).1 ?_;have:=hown'.scale hp0 hred.ok (-(nth (rest p out row) a))
   rwa[scl_back hp0 hrest hk]at this
end
end Rv
namespace Rv
def qy(l:List (List Int))(i:Nat):List Int:=l.getD i []
theorem qQ{l:List (List Int)}{i:Nat}(h:i < l.length):qy l i=l[i]:=by simp[qy,h]
theorem mem_row{l:List (List Int)}{r:List Int}:r∈l↔∃i,i < l.length∧qy l i=r:=by
 constructor
 ·intro h
  obtain⟨i,hi,rfl⟩:=wN h;exact⟨i,hi,qQ hi⟩
 ·rintro⟨i,hi,rfl⟩
  rw[qQ hi]; exact wB hi
theorem zL{l:List (List Int)}{i:Nat}(h:i < l.length):qy l i∈l:=mem_row.2 ⟨i,h,rfl⟩
section
variable {p:Int} {w:Nat}
structure GInv (p:Int) (w:Nat) (rows:List (List Int)) (c:Nat) (l:List (List Int)) (d:Nat):Prop where
 ok:Rows p w l
 sp:∀v,Sp p w l v↔Sp p w rows v
 dn:d≤l.length
 cw:c≤w
 lead:∀k,k < d→ld (qy l k) < c∧nth (qy l k) (ld (qy l k))=1
 up:∀k m,k < m→m < d→ld (qy l k) < ld (qy l m)
 z1:∀i k,i < l.length→k < d→i≠k→nth (qy l i) (ld (qy l k))=0
 z2:∀i j,d≤i→i < l.length→j < c→nth (qy l i) j=0
theorem GInv.start{rows:List (List Int)}(h:Rows p w rows):GInv p w rows 0 rows 0:=
 ⟨h,fun v=> yE,vL _,vL _,fun k hk=> absurd hk (yN _),fun k m _ hk=> absurd hk (yN _),fun i k _ hk=> absurd hk (yN _),fun i j _ _ hj=> absurd hj (yN _)⟩
theorem GInv.skip{rows l:List (List Int)}{c d:Nat}(g:GInv p w rows c l d)(hc:c < w)(h:∀i,d≤i→i < l.length→nth (qy l i) c=0):GInv p w rows (c+1) l d:=
 ⟨g.ok,g.sp,g.dn,hc,fun k hk=>⟨Nat.lt_succ_of_lt (g.lead k hk).1,(g.lead k hk).2⟩,g.up,g.z1,fun i j h1 h2 h3=> by
  rcases wW j c with q|q
  ·exact g.z2 i j h1 h2 q
  ·have:j=c:=by omega
   subst this; exact h i h1 h2⟩
theorem GInv.done{rows l:List (List Int)}{c d:Nat}(hp:1 < p)(g:GInv p w rows c l d)(h:c=w∨d=l.length):zj p w rows (l.take d):=by
 have hp0:0 < p:=by omega
 have hdl:=g.dn;have hm:∀r,r∈l.take d↔∃i,i < d∧qy l i=r:=fun r=> by
  rw[mem_row];have hl:(l.take d).length=d:=by simp; omega
  rw[hl];constructor
  ·rintro⟨i,h1,h2⟩
   refine⟨i,h1,?_⟩;rw[qQ (by omega)];rw[qQ (by omega),List.getElem_take]at h2; exact h2
  ·rintro⟨i,h1,h2⟩
   refine⟨i,h1,?_⟩;rw[qQ (by omega)]at h2;rw[qQ (by omega),List.getElem_take]; exact h2
 have hok:Rows p w (l.take d):=fun r hr=> g.ok r (wM hr);refine⟨⟨hok,fun r hr=>?_,?_⟩,fun v=>(Iff.intro (fun hv=>?_) fun hv=>?_).trans (g.sp v)⟩
 ·obtain⟨i,hi,rfl⟩:=(hm r).1 hr
  have h1:=g.lead i hi;have h2:=g.cw;exact⟨by omega,h1.2⟩
 ·rw[List.pairwise_iff_getElem]
  intro i j h1 h2 hij;have e1:(l.take d)[i]=qy l i:=by rw[List.getElem_take,qQ]
  have e2:(l.take d)[j]=qy l j:=by rw[List.getElem_take,qQ]
  simp only[yH]at h1 h2;rw[e1,e2];exact⟨g.up i j hij (by omega),g.z1 i j (by omega) (by omega) (by omega)⟩
 ·exact hv.mono fun r hr=> wM hr
 ·refine hv.into hp0 hok fun r hr=>?_
  obtain⟨i,hi,rfl⟩:=mem_row.1 hr;rcases wW i d with q|q
  ·exact .mem hp0 hok ((hm _).2 ⟨i,q,rfl⟩)
  ·rcases h with h|h
   ·have hz:qy l i=zv w:=(g.ok _ hr).ext (zM hp0 w) fun j hj=> by rw[g.z2 i j q hi (by omega),zm]; exact .refl _ _
    rw[hz]; exact .zero
   ·omega
def jB(p:Int)(c d:Nat)(row:List Int)(l:List (List Int)):List (List Int):=(l.set d row).mapIdx fun i r=> if i=d then r else subv p r row (nth r c)
theorem gstep_len{c d:Nat}{row:List Int}{l:List (List Int)}:(jB p c d row l).length=l.length:=by simp[jB]
theorem gstep_at{c d:Nat}{row:List Int}{l:List (List Int)}(hd:d < l.length){i:Nat}(hi:i < l.length):qy (jB p c d row l) i=if i=d then row else subv p (qy l i) row (nth (qy l i) c):=by
 rw[qQ (by rw[gstep_len]; exact hi),qQ hi];simp only[jB,List.getElem_mapIdx];split
 ·rename_i e; subst e; simp
 ·rename_i e; rw[List.getElem_set_ne (yM e)]
theorem GInv.put{rows l l2:List (List Int)}{c d j:Nat}{k:Int}(hp:1 < p)(g:GInv p w rows c l d)(hc:c < w)(hj:d≤j)(hjl:j < l.length)(hk:Cg p (nth (qy l j) c*k) 1)
  (h2l:l2.length=l.length) (h2:∀i,i < l.length→qy l2 i=qy l (if i=j then d else if i=d then j else i)):GInv p w rows (c+1) (jB p c d (scl p (qy l j) k) l2) (d+1):=by
 have hp0:0 < p:=by omega
 have hdl:d < l.length:=by omega
 have hrj:=g.ok _ (zL hjl);have hrow:=scl_ok hp0 hrj k;generalize hR:scl p (qy l j) k=row at*
 -- the new row
 have zr:∀m,m < c→nth row m=0:=fun m hm=> by
  have h1:=nth_scl hp0 hrj k (show m < w by omega);rw[hR,g.z2 j m hj hjl hm]at h1;exact(h1.trans ⟨0,by grind⟩).eq (hrow.rng _ (by omega)).1 (hrow.rng _ (by omega)).2 (yC _) hp0
 have or:nth row c=1:=by
  have h1:=nth_scl hp0 hrj k hc;rw[hR]at h1;exact(h1.trans hk).eq (hrow.rng _ hc).1 (hrow.rng _ hc).2 (by decide) hp
 have lr:ld row=c:=ld_of zr (by rw[or]; decide);have hL:(jB p c d row l2).length=l.length:=gstep_len.trans h2l;have ha:∀i,i < l.length→qy (jB p c d row l2) i=if i=d then row else subv p (qy l2 i) row (nth (qy l2 i) c):=fun i hi=> gstep_at (by omega) (by omega)
 have ok2:∀i,i < l.length→qJ p w (qy l2 i):=fun i hi=> by
  rw[h2 i hi];refine g.ok _ (zL ?_);split
  ·exact hdl
  ·split
   ·exact hjl
   ·exact hi
 have okn:Rows p w (jB p c d row l2):=fun r hr=> by
  obtain⟨i,hi,rfl⟩:=mem_row.1 hr;rw[hL]at hi;rw[ha i hi];split
  ·exact hrow
  ·exact qT hp0 (ok2 i hi).len hrow.len
 -- rows of before keep what they have before c
 have keep:∀i m,i < l.length→i≠d→m < c→nth (qy (jB p c d row l2) i) m=nth (qy l2 i) m:=fun i m hi hid hm=> by
  have hr:=(ok2 i hi).rng m (by omega);rw[ha i hi,if_neg hid,zn (ok2 i hi).len hrow.len (by omega),zr m hm];simp only[Int.mul_zero,Int.sub_zero];exact Int.emod_eq_of_lt hr.1 hr.2
 have zc:∀i,i < l.length→i≠d→nth (qy (jB p c d row l2) i) c=0:=fun i hi hid=> by
  rw[ha i hi,if_neg hid,zn (ok2 i hi).len hrow.len hc,or]; simp
 have lo:∀i,i < d→qy l2 i=qy l i:=fun i hi=> by rw[h2 i (by omega),if_neg (by omega),if_neg (by omega)]
 have ldk:∀i,i < d→ld (qy (jB p c d row l2) i)=ld (qy l i)∧nth (qy (jB p c d row l2) i) (ld (qy l i))=1:=fun i hi=> by
  have h1:=g.lead i hi;have e1:nth (qy (jB p c d row l2) i) (ld (qy l i))=1:=by rw[keep i _ (by omega) (by omega) h1.1,lo i hi,h1.2]
  refine⟨ld_of (fun m hm=>?_) (by rw[e1]; decide),e1⟩;rw[keep i m (by omega) (by omega) (by omega),lo i hi,zx hm]
 have rd:qy (jB p c d row l2) d=row:=by rw[ha d hdl,if_pos rfl]
 -- the space
 have hspR:Sp p w l row:=by rw[←hR,scl_sub hp0 hrj]; exact(Sp.mem hp0 g.ok (zL hjl)).scale hp0 g.ok _
 have hspN:Sp p w (jB p c d row l2) row:=by
  have:=zL (l:=jB p c d row l2) (i:=d) (by omega);rw[rd]at this;exact .mem hp0 okn this
 have back:∀i,i < l.length→i≠d→Sp p w (jB p c d row l2) (qy l2 i):=fun i hi hid=> by
  have:=zL (l:=jB p c d row l2) (i:=i) (by omega);rw[ha i hi,if_neg hid]at this;exact(sub_iff hp0 okn (ok2 i hi) hspN _).1 (.mem hp0 okn this)
 have backj:Sp p w (jB p c d row l2) (qy l j):=by
  have:=hspN.scale hp0 okn (-(nth (qy l j) c));rw[←hR,scl_back hp0 hrj hk]at this;rw[←hR]; exact this
 have hsw:∀i,i < l.length→∃m,m < l.length∧qy l2 m=qy l i:=fun i hi=> by
  by_cases e:i=j
  ·exact⟨d,hdl,by rw[h2 d hdl]; subst e; by_cases q:d=i <;> simp[q]⟩
  ·by_cases e2:i=d
   ·exact⟨j,hjl,by rw[h2 j hjl,if_pos rfl,e2]⟩
   ·exact⟨i,hi,by rw[h2 i hi,if_neg e,if_neg e2]⟩
 refine⟨okn,fun v=>(Iff.intro (fun hv=>?_) fun hv=>?_).trans (g.sp v),by omega,hc,fun k' hk'=>?_,fun k' m hkm hm=>?_,fun i k' hi hk' hne=>?_,fun i m h1 hi hm=>?_⟩
 ·refine hv.into hp0 g.ok fun r hr=>?_
  obtain⟨i,hi,rfl⟩:=mem_row.1 hr;rw[hL]at hi;rw[ha i hi];split
  ·exact hspR
  ·refine Sp.lin hp0 g.ok ?_ hspR _
   rw[h2 i hi];refine .mem hp0 g.ok (zL ?_);split
   ·exact hdl
   ·exact hi
 ·refine hv.into hp0 okn fun r hr=>?_
  obtain⟨i,hi,rfl⟩:=mem_row.1 hr;by_cases e:i=j
  ·subst e; exact backj
  ·by_cases e2:i=d
   ·subst e2
    have:=back j hjl (fun q=> e q.symm)
    rwa[h2 j hjl,if_pos rfl]at this
   ·have:=back i hi e2
    rwa[h2 i hi,if_neg e,if_neg e2]at this
 ·rcases wW k' d with q|q
  ·have:=ldk k' q
   rw[this.1];exact⟨by have:=(g.lead k' q).1; omega,this.2⟩
  ·have:k'=d:=by omega
   subst this;rw[rd,lr]; exact⟨Nat.lt_succ_self _,or⟩
 ·rcases wW m d with q|q
  ·rw[(ldk k' (by omega)).1,(ldk m q).1]; exact g.up k' m hkm q
  ·have:m=d:=by omega
   subst this;rw[(ldk k' hkm).1,rd,lr]; exact(g.lead k' hkm).1
 ·rw[hL]at hi
  rcases wW k' d with q|q
  ·rw[(ldk k' q).1]
   have hlc:=(g.lead k' q).1;by_cases e:i=d
   ·subst e; rw[rd]; exact zr _ hlc
   ·rw[keep i _ hi e hlc,h2 i hi]
    split
    ·exact g.z1 d k' hdl q (by omega)
    ·exact g.z1 i k' hi q hne
  ·have:k'=d:=by omega
   subst this;rw[rd,lr]; exact zc i hi hne
 ·rw[hL]at hi
  rcases wW m c with q|q
  ·rw[keep i m hi (by omega) q,h2 i hi]
   split
   ·exact g.z2 d m (wD _) hdl q
   ·split
    ·omega
    ·exact g.z2 i m (by omega) hi q
  ·have:m=c:=by omega
   subst this;exact zc i hi (by omega)
end
theorem zj.same{p:Int}{w:Nat}(hp:1 < p){rows a b:List (List Int)}(ha:zj p w rows a)(hb:zj p w rows b):a=b:=
 ha.red.unique (by omega) hb.red fun v=>(ha.sp v).trans (hb.sp v).symm
end Rv
namespace Rv
def jR(n i:Nat):List Int:=(zv n).set i 1
theorem unitv_len(n i:Nat):(jR n i).length=n:=by simp[jR,zv]
theorem xy{n i j:Nat}(hi:i < n):nth (jR n i) j=if j=i then 1 else 0:=by
 rcases wW j n with hj|hj
 ·rw[qU (by rw[unitv_len]; exact hj)]
  unfold jR;rw[List.getElem_set];by_cases e:i=j
  ·subst e; rw[if_pos rfl,if_pos rfl]
  ·rw[if_neg e,if_neg (yM e)]; simp[zv]
 ·rw[nth_out (by rw[unitv_len]; exact hj),if_neg (by omega)]
def xk(n:Nat):List (List Int):=(List.range n).map (jR n)
theorem units_len(n:Nat):(xk n).length=n:=by simp[xk]
section
variable {p:Int}
theorem unitv_ok(hp:1 < p){n i:Nat}(hi:i < n):qJ p n (jR n i):=⟨unitv_len n i,fun j _=> by rw[xy hi]; split <;> omega⟩
theorem ld_unit{n i:Nat}(hi:i < n):ld (jR n i)=i:=ld_of (fun j hj=> by rw[xy hi,if_neg (by omega)]) (by rw[xy hi,if_pos rfl]; decide)
theorem units_red(hp:1 < p)(n:Nat):Red p n (xk n):=by
 have hm:∀r,r∈xk n→∃i,i < n∧r=jR n i:=fun r hr=> by
  obtain⟨i,hi,rfl⟩:=wL.1 hr;exact⟨i,vC.1 hi,rfl⟩
 refine⟨fun r hr=>?_,fun r hr=>?_,?_⟩
 ·obtain⟨i,hi,rfl⟩:=hm r hr; exact unitv_ok hp hi
 ·obtain⟨i,hi,rfl⟩:=hm r hr
  rw[ld_unit hi,xy hi,if_pos rfl]; exact⟨hi,rfl⟩
 ·rw[List.pairwise_iff_getElem]
  intro i j h1 h2 hij;rw[units_len]at h1 h2;have e1:(xk n)[i]'(by rw[units_len]; exact h1)=jR n i:=by simp[xk]
  have e2:(xk n)[j]'(by rw[units_len]; exact h2)=jR n j:=by simp[xk]
  rw[e1,e2,ld_unit h1,ld_unit h2,xy h1,if_neg (by omega)];exact⟨hij,rfl⟩
theorem jX(r:List Int)(w j:Nat):nth (r.drop w) j=nth r (w+j):=by simp[nth]
theorem nth_app{r s:List Int}{j:Nat}:nth (r++s) j=if j < r.length then nth r j else nth s (j - r.length):=by
 unfold nth;rw[List.getD_eq_getElem?_getD,List.getD_eq_getElem?_getD,List.getD_eq_getElem?_getD];split
 ·rename_i h; rw[List.getElem?_append_left h]
 ·rename_i h; rw[List.getElem?_append_right (Nat.le_of_not_lt h)]
def zX(w:Nat)(E:List (List Int)):List (List Int):=(E.filter fun r=> decide (w≤ld r)).map (List.drop w)
theorem ld_drop{r:List Int}{w:Nat}(h:w≤ld r)(hl:ld r < r.length):ld (r.drop w)=ld r - w:=ld_of (fun j hj=> by rw[jX]; exact zx (by omega)) (by rw[jX,show w+(ld r - w)=ld r by omega]; exact ld_ne hl)
theorem tails_red{w n:Nat}{E:List (List Int)}(h:Red p (w+n) E):Red p n (zX w E):=by
 have hm:∀x,x∈zX w E→∃r∈E,w≤ld r∧x=r.drop w:=fun x hx=> by
  obtain⟨r,hr,rfl⟩:=wL.1 hx;obtain⟨h1,h2⟩:=uF.1 hr;exact⟨r,h1,by simpa using h2,rfl⟩
 refine⟨fun x hx=>?_,fun x hx=>?_,?_⟩
 ·obtain⟨r,hr,h1,rfl⟩:=hm x hx
  have hk:=h.ok r hr;exact⟨by rw[yQ,hk.len]; omega,fun j hj=> by rw[jX]; exact hk.rng _ (by omega)⟩
 ·obtain⟨r,hr,h1,rfl⟩:=hm x hx
  have hk:=h.ok r hr;have ho:=h.one r hr;rw[ld_drop h1 (by rw[hk.len]; exact ho.1),jX,show w+(ld r - w)=ld r by omega];exact⟨by omega,ho.2⟩
 ·unfold zX
  rw[List.pairwise_map];refine(h.ord.sublist List.filter_sublist).imp_of_mem fun hr hs q=>?_;rename_i r s;obtain⟨r1,r2⟩:=uF.1 hr;obtain⟨s1,s2⟩:=uF.1 hs;have r2':w≤ld r:=by simpa using r2
  have s2':w≤ld s:=by simpa using s2
  rw[ld_drop r2' (by rw[(h.ok r r1).len]; exact(h.one r r1).1),ld_drop s2' (by rw[(h.ok s s1).len]; exact(h.one s s1).1),jX,show w+(ld s - w)=ld s by omega];exact⟨by omega,q.2⟩
theorem zj.self{w:Nat}{E:List (List Int)}(h:Red p w E):zj p w E E:=⟨h,fun v=> yE⟩
def jp(n:Nat)(rows:List (List Int)):List (List Int):=(List.range n).map fun i=> qy rows i++jR n i
theorem longs_len(n:Nat)(rows:List (List Int)):(jp n rows).length=n:=by simp[jp]
theorem longs_at{n:Nat}{rows:List (List Int)}{i:Nat}(h:i < (jp n rows).length):(jp n rows)[i]=qy rows i++jR n i:=by simp[jp]
theorem longs_ok(hp:1 < p){w:Nat}{rows:List (List Int)}(h:Rows p w rows):Rows p (w+rows.length) (jp rows.length rows):=fun x hx=> by
 obtain⟨i,hi,rfl⟩:=wL.1 hx;have hi':=vC.1 hi;have hr:=h _ (zL hi');have hu:=unitv_ok hp hi';refine⟨by rw[wP,hr.len,hu.len],fun j hj=>?_⟩;rw[nth_app,hr.len];split
 ·rename_i q; exact hr.rng j q
 ·exact hu.rng _ (by omega)
end
end Rv
namespace Rv
section
variable {p:Int} {w w':Nat}
structure Lin (p:Int) (w w':Nat) (φ:List Int→List Int):Prop where
 ok:∀u,qJ p w u→qJ p w' (φ u)
 sub:∀u v k,qJ p w u→qJ p w v→φ (subv p u v k)=subv p (φ u) (φ v) k
theorem sub_zv(hp:0 < p){w:Nat}:subv p (zv w) (zv w) 1=zv w:=
 (qT hp (zM hp w).len (zM hp w).len).ext (zM hp w) fun j hj=>(qX (zM hp w).len (zM hp w).len hj).trans (by rw[zm]; exact⟨0,by simp⟩)
theorem sub_self(hp:0 < p){w:Nat}{v:List Int}(hv:qJ p w v):subv p v v 1=zv w:=
 (qT hp hv.len hv.len).ext (zM hp w) fun j hj=>(qX hv.len hv.len hj).trans (by rw[zm]; exact⟨0,by grind⟩)
theorem Lin.zero(hp:0 < p){φ:List Int→List Int}(h:Lin p w w' φ):φ (zv w)=zv w':=by
 have h0:=zM hp w;have:=h.sub (zv w) (zv w) 1 h0 h0;rw[sub_zv hp,sub_self hp (h.ok _ h0)]at this;exact this
theorem Lin.rows{φ:List Int→List Int}(h:Lin p w w' φ){R:List (List Int)}(hR:Rows p w R):Rows p w' (R.map φ):=fun r hr=> by
 obtain⟨s,hs,rfl⟩:=wL.1 hr;exact h.ok s (hR s hs)
theorem Lin.sp(hp:0 < p){φ:List Int→List Int}(h:Lin p w w' φ){R:List (List Int)}(hR:Rows p w R){v:List Int}(hv:Sp p w R v):Sp p w' (R.map φ) (φ v):=by
 induction hv with
 |zero=> rw[h.zero hp]; exact .zero
 | @sub v r k hv hr ih=>
  rw[h.sub v r k (hv.ok hp hR) (hR r hr)];exact .sub k ih (List.mem_map_of_mem hr)
theorem Lin.lift(hp:0 < p){φ:List Int→List Int}(h:Lin p w w' φ){R:List (List Int)}(hR:Rows p w R){u:List Int}(hu:Sp p w' (R.map φ) u):∃v,Sp p w R v∧φ v=u:=by
 induction hu with
 |zero=> exact⟨_,.zero,h.zero hp⟩
 | @sub u s k hu hs ih=>
  obtain⟨v,h1,rfl⟩:=ih;obtain⟨r,hr,rfl⟩:=wL.1 hs;exact⟨_,.sub k h1 hr,h.sub v r k (h1.ok hp hR) (hR r hr)⟩
theorem rest_lin(hp:0 < p):∀ {R:List (List Int)} (hR:Rows p w R) (hl:∀r∈R,ld r < w),Lin p w w (rest p R)
 | [],_,_=>⟨fun u h=> h,fun u v k _ _=> rfl⟩
 |r::R,hR,hl=> by
  have hr:=hR r wF;have hlr:=hl r wF;have ih:=rest_lin hp (R:=R) (fun s hs=> hR s (wH _ hs)) (fun s hs=> hl s (wH _ hs));refine⟨fun u hu=> zV hp hR hu,fun u v k hu hv=>?_⟩;have h1:=qT hp hu.len hr.len (k:=nth u (ld r));have h2:=qT hp hv.len hr.len (k:=nth v (ld r));have h3:=qT hp hu.len hv.len (k:=k);have e:subv p (subv p u v k) r (nth (subv p u v k) (ld r))=subv p (subv p u r (nth u (ld r))) (subv p v r (nth v (ld r))) k:=by
   refine(qT hp h3.len hr.len).ext (qT hp h1.len h2.len) fun j hj=>?_;have c:=qX (p:=p) hu.len hv.len (k:=k) hlr;refine(qX h3.len hr.len hj).trans (Cg.trans (.sub (qX hu.len hv.len hj) (.mul c (.refl _ _))) (Cg.symm ((qX h1.len h2.len hj).trans (Cg.trans (.sub (qX hu.len hr.len hj) (.mul (.refl _ _) (qX hv.len hr.len hj))) ⟨0,by grind⟩))))
  show rest p R (subv p (subv p u v k) r (nth (subv p u v k) (ld r)))=subv p (rest p R (subv p u r (nth u (ld r)))) (rest p R (subv p v r (nth v (ld r)))) k;rw[e,ih.sub _ _ _ h1 h2]
theorem zY(hp:0 < p){R:List (List Int)}(hR:Red p w R){v:List Int}(hv:qJ p w v):rest p R v=zv w↔Sp p w R v:=by
 have hb:=jb hp hR.ok hR.ok (fun r hr=> .mem hp hR.ok hr) hv;constructor
 ·intro e
  exact hb.1 (by rw[e]; exact .zero)
 ·intro h
  have h1:=hb.2 h;have h2:=zV hp hR.ok hv;refine h2.ext (zM hp w) fun j hj=>?_;have h3:=hR.coord hp h1 j hj;rw[comb_zero fun r hr=> .inl (rest_lead hp hR hv r hr)]at h3;rw[zm]; exact h3
def zC(T:List (List Int))(u:List Int):List Int:=T.map fun t=> nth u (ld t)
theorem leads_lin(hp:0 < p){T:List (List Int)}(hT:∀t∈T,ld t < w):Lin p w T.length (zC T):=by
 have hat:∀ (u:List Int) (i:Nat) (hi:i < T.length),nth (zC T u) i=nth u (ld T[i]):=fun u i hi=> by
  rw[qU (by simpa[zC]using hi)]; simp[zC]
 refine⟨fun u hu=>⟨by simp[zC],fun i hi=>?_⟩,fun u v k hu hv=>?_⟩
 ·rw[hat u i hi]; exact hu.rng _ (hT _ (wB hi))
 ·have l1:(zC T u).length=T.length:=by simp[zC]
  have l2:(zC T v).length=T.length:=by simp[zC]
  refine nth_ext (by simp[zC,subv]) fun i hi=>?_;have hi':i < T.length:=by simpa[zC]using hi
  rw[hat _ i hi',zn hu.len hv.len (hT _ (wB hi')),zn l1 l2 hi',hat _ i hi',hat _ i hi']
theorem Lin.comp{w'':Nat}{φ ψ:List Int→List Int}(h:Lin p w w' φ)(k:Lin p w' w'' ψ):Lin p w w'' fun u=> ψ (φ u):=
 ⟨fun u hu=> k.ok _ (h.ok u hu),fun u v c hu hv=> by show ψ (φ (subv p u v c))=subv p (ψ (φ u)) (ψ (φ v)) c; rw[h.sub u v c hu hv,k.sub _ _ _ (h.ok u hu) (h.ok v hv)]⟩
def HasInv(p:Int):Prop:=∀a,0 < a→a < p→∃k,Cg p (a*k) 1
theorem ech_step(hp:1 < p)(hi:HasInv p){rows E:List (List Int)}{v:List Int}(h:zj p w rows E)(hr:Rows p w rows)(hv:qJ p w v):
  ∃E',zj p w (rows++[v]) E'∧(Sp p w rows v→E'.length=E.length)∧(¬Sp p w rows v→E'.length=E.length+1):=by
 have hp0:0 < p:=by omega
 have hrest:=zV hp0 h.red.ok hv;by_cases hz:Sp p w rows v
 ·have e:rest p E v=zv w:=(zY hp0 h.red hv).2 ((h.sp v).2 hz)
  exact⟨E,h.skip hp hr hv (fun j hj=> by rw[e,zm]),fun _=> rfl,fun q=> absurd hz q⟩
 ·have hne:¬∀j,j < w→nth (rest p E v) j=0:=fun q=> hz ((h.sp v).1 ((zY hp0 h.red hv).1 (hrest.ext (zM hp0 w) fun j hj=> by rw[q j hj,zm]; exact .refl _ _)))
  have hl:ld (rest p E v) < w:=by
   refine Nat.lt_of_not_le fun q=> hne fun j hj=> zx (by omega)
  have hnz:=ld_ne (r:=rest p E v) (by rw[hrest.len]; exact hl);have hrng:=hrest.rng _ hl;obtain⟨k,hk⟩:=hi (nth (rest p E v) (ld (rest p E v))) (by omega) hrng.2;exact⟨_,h.put hp hr hv hl (fun j hj=> zx hj) hk,fun q=> absurd q hz,fun _=> ins_len⟩
theorem rank_pair(hp:1 < p)(hi:HasInv p){A EA:List (List Int)}(hA:Rows p w A)(hEA:zj p w A EA){α:Type}{Z:List α}{f g:α→List Int}(hf:∀z∈Z,qJ p w (f z))(hg:∀z∈Z,qJ p w' (g z))
  (hiff:∀ (k:Nat) (hk:k < Z.length),Sp p w (A++(Z.take k).map f) (f Z[k])↔Sp p w' ((Z.take k).map g) (g Z[k])) {E E':List (List Int)} (hE:zj p w (A++Z.map f) E) (hE':zj p w' (Z.map g) E'):E.length=EA.length+E'.length:=by
 have key:∀k,k≤Z.length→∃E E',zj p w (A++(Z.take k).map f) E∧zj p w' ((Z.take k).map g) E'∧E.length=EA.length+E'.length:=by
  intro k;induction k with
  |zero=> intro _; exact⟨EA,[],by simpa using hEA,by simpa using zj.nil p w',by simp⟩
  |succ k ih=>
   intro hk;obtain⟨E,E',h1,h2,h3⟩:=ih (by omega);have hz:=wB (show k < Z.length by omega);have r1:Rows p w (A++(Z.take k).map f):=fun r hr=> by
    rcases wK.1 hr with q|q
    ·exact hA r q
    ·obtain⟨z,hz,rfl⟩:=wL.1 q
     exact hf z (wM hz)
   have r2:Rows p w' ((Z.take k).map g):=fun r hr=> by
    obtain⟨z,hz,rfl⟩:=wL.1 hr;exact hg z (wM hz)
   obtain⟨F,f1,f2,f3⟩:=ech_step hp hi h1 r1 (hf _ hz);obtain⟨F',g1,g2,g3⟩:=ech_step hp hi h2 r2 (hg _ hz);have e1:(Z.take (k+1)).map f=(Z.take k).map f++[f Z[k]]:=by rw[←wT (show k < Z.length by omega),yP]; rfl
   have e2:(Z.take (k+1)).map g=(Z.take k).map g++[g Z[k]]:=by rw[←wT (show k < Z.length by omega),yP]; rfl
   refine⟨F,F',by rw[e1,←wR]; exact f1,by rw[e2]; exact g1,?_⟩;by_cases q:Sp p w (A++(Z.take k).map f) (f Z[k])
   ·rw[f2 q,g2 ((hiff k (by omega)).1 q),h3]
   ·rw[f3 q,g3 (fun c=> q ((hiff k (by omega)).2 c)),h3]; omega
 obtain⟨F,F',h1,h2,h3⟩:=key Z.length (wD _);rw[vH]at h1 h2;rw[hE.same hp h1,hE'.same hp h2,h3]
def sumI(f:Nat→Int):Nat→Int
 |0=> 0
 |n+1=> sumI f n+f n
theorem sumI_cg{f g:Nat→Int}:∀ {n:Nat},(∀i,i < n→Cg p (f i) (g i))→Cg p (sumI f n) (sumI g n)
 |0,_=> .refl _ _
 |n+1,h=> .add (sumI_cg fun i hi=> h i (by omega)) (h n (by omega))
theorem jn{f g:Nat→Int}{n:Nat}(h:∀i,i < n→f i=g i):sumI f n=sumI g n:=by
 induction n with
 |zero=> rfl
 |succ n ih=> unfold sumI; rw[ih fun i hi=> h i (by omega),h n (by omega)]
theorem sumI_zero{f:Nat→Int}{n:Nat}(h:∀i,i < n→f i=0):sumI f n=0:=by
 induction n with
 |zero=> rfl
 |succ n ih=> unfold sumI; rw[ih fun i hi=> h i (by omega),h n (by omega)]; rfl
theorem sumI_lin{f g:Nat→Int}{k:Int}:∀ {n:Nat},sumI (fun i=> f i - k*g i) n=sumI f n - k*sumI g n
 |0=> by simp[sumI]
 |n+1=> by unfold sumI; rw[sumI_lin (n:=n)]; grind
def dot(f:Nat→Int)(m:List (List Int))(n j:Nat):Int:=sumI (fun i=> f i*nth (qy m i) j) n
theorem dot_cg{f g:Nat→Int}{m:List (List Int)}{n j:Nat}(h:∀i,i < n→Cg p (f i) (g i)):Cg p (dot f m n j) (dot g m n j):=sumI_cg fun i hi=> .mul (h i hi) (.refl _ _)
theorem dot_lin{f g:Nat→Int}{k:Int}{m:List (List Int)}{n j:Nat}:dot (fun i=> f i - k*g i) m n j=dot f m n j - k*dot g m n j:=by
 unfold dot;rw[←sumI_lin];exact jn fun i _=> by grind
theorem dot_zero{f:Nat→Int}{m:List (List Int)}{n j:Nat}(h:∀i,i < n→f i=0):dot f m n j=0:=sumI_zero fun i hi=> by rw[h i hi]; simp
theorem dot_unit{a:Nat}{m:List (List Int)}{j:Nat}:∀ {n:Nat},a < n→dot (fun i=> if i=a then 1 else 0) m n j=nth (qy m a) j
 |n+1,h=> by
  unfold dot sumI;by_cases q:a=n
  ·subst q
   rw[sumI_zero fun i hi=> by simp only; rw[if_neg (by omega)]; simp];simp
  ·have:=dot_unit (m:=m) (j:=j) (n:=n) (a:=a) (by omega)
   unfold dot at this;rw[this];simp only;rw[if_neg (by omega)]; simp
structure Graph (p:Int) (w n:Nat) (rows:List (List Int)) (u:List Int):Prop where
 ok:qJ p (w+n) u
 at_:∀j,j < w→Cg p (nth u j) (dot (fun i=> nth u (w+i)) rows n j)
theorem Graph.sub(hp:0 < p){n:Nat}{rows:List (List Int)}{u v:List Int}(hu:Graph p w n rows u)(hv:Graph p w n rows v)(k:Int):Graph p w n rows (subv p u v k):=by
 refine⟨qT hp hu.ok.len hv.ok.len,fun j hj=>?_⟩;refine(qX hu.ok.len hv.ok.len (by omega)).trans (Cg.trans (.sub (hu.at_ j hj) (.mul (.refl _ _) (hv.at_ j hj))) ?_);rw[←dot_lin];exact dot_cg fun i hi=>(qX hu.ok.len hv.ok.len (by omega)).symm
theorem Graph.zero(hp:0 < p){n:Nat}{rows:List (List Int)}:Graph p w n rows (zv (w+n)):=
 ⟨zM hp _,fun j hj=> by rw[zm,dot_zero fun i _=> zm _ _]; exact .refl _ _⟩
theorem long_ok(hp:1 < p){rows:List (List Int)}(h:Rows p w rows){i:Nat}(hi:i < rows.length):qJ p (w+rows.length) (qy rows i++jR rows.length i)∧(∀j,j < w→nth (qy rows i++jR rows.length i) j=nth (qy rows i) j)∧∀j,nth (qy rows i++jR rows.length i) (w+j)=if j=i then 1 else 0:=by
 have hr:=h _ (zL hi);have hm:qy rows i++jR rows.length i∈jp rows.length rows:=wL.2 ⟨i,vC.2 hi,rfl⟩;refine⟨longs_ok hp h _ hm,fun j hj=> by rw[nth_app,hr.len,if_pos hj],fun j=>?_⟩;rw[nth_app,hr.len,if_neg (by omega),show w+j - w=j by omega,xy hi]
theorem long_graph(hp:1 < p){rows:List (List Int)}(h:Rows p w rows){i:Nat}(hi:i < rows.length):Graph p w rows.length rows (qy rows i++jR rows.length i):=by
 obtain⟨h1,h2,h3⟩:=long_ok hp h hi;refine⟨h1,fun j hj=>?_⟩;have e:dot (fun k=> nth (qy rows i++jR rows.length i) (w+k)) rows rows.length j=nth (qy rows i) j:=by
  rw[←dot_unit (m:=rows) (j:=j) hi];exact jn fun k _=> by simp only; rw[h3 k]
 rw[h2 j hj,e]; exact .refl _ _
theorem longs_sp(hp:1 < p){rows:List (List Int)}(h:Rows p w rows){u:List Int}:Sp p (w+rows.length) (jp rows.length rows) u↔Graph p w rows.length rows u:=by
 have hp0:0 < p:=by omega
 have hL:=longs_ok hp h;constructor
 ·intro hu
  induction hu with
  |zero=> exact .zero hp0
  | @sub v r k hv hr ih=>
   obtain⟨i,hi,rfl⟩:=wL.1 hr;exact ih.sub hp0 (long_graph hp h (vC.1 hi)) k
 ·have key:∀k,k≤rows.length→∀u,Graph p w rows.length rows u→(∀i,k≤i→i < rows.length→nth u (w+i)=0)→Sp p (w+rows.length) (jp rows.length rows) u:=by
   intro k;induction k with
   |zero=>
    intro _ u hu hz;have:u=zv (w+rows.length):=hu.ok.ext (zM hp0 _) fun j hj=> by
     rw[zm];by_cases q:j < w
     ·have:=hu.at_ j q
      rwa[dot_zero fun i hi=> hz i (by omega) hi]at this
     ·rw[show j=w+(j - w) by omega,hz (j - w) (by omega) (by omega)]; exact .refl _ _
    rw[this]; exact .zero
   |succ k ih=>
    intro hk u hu hz;obtain⟨h1,h2,h3⟩:=long_ok hp h (i:=k) (by omega);have hm:qy rows k++jR rows.length k∈jp rows.length rows:=wL.2 ⟨k,vC.2 (by omega),rfl⟩;have hg:=hu.sub hp0 (long_graph hp h (i:=k) (by omega)) (nth u (w+k));refine(sub_iff hp0 hL hu.ok (.mem hp0 hL hm) (nth u (w+k))).1 (ih (by omega) _ hg fun i hi1 hi2=>?_);rw[zn hu.ok.len h1.len (by omega),h3 i];by_cases q:i=k
    ·subst q; rw[if_pos rfl]; simp
    ·rw[if_neg q,hz i (by omega) hi2]; simp
  intro hu;exact key rows.length (wD _) u hu fun i h1 h2=> by omega
theorem rest_tails(hp:0 < p){w n:Nat}:∀ {E:List (List Int)} (hE:Red p (w+n) E) {u:List Int} (hu:qJ p (w+n) u),(∀j,j < w→nth u j=0)→(rest p E u).drop w=rest p (zX w E) (u.drop w)
 | [],_,u,_,_=> rfl
 |r::E,hE,u,hu,hz=> by
  have hE':Red p (w+n) E:=⟨fun t ht=> hE.ok t (wH _ ht),fun t ht=> hE.one t (wH _ ht),(vN.1 hE.ord).2⟩;have hr:=hE.ok r wF;have hlr:=(hE.one r wF).1;have hs:=qT hp hu.len hr.len (k:=nth u (ld r));show(rest p E (subv p u r (nth u (ld r)))).drop w=_;by_cases q:w≤ld r
  ·have et:zX w (r::E)=r.drop w::zX w E:=by simp[zX,q]
   rw[et];have hz':∀j,j < w→nth (subv p u r (nth u (ld r))) j=0:=fun j hj=> by
    rw[zn hu.len hr.len (by omega),hz j hj,zx (r:=r) (j:=j) (by omega)]; simp
   rw[rest_tails hp hE' hs hz'];show _=rest p (zX w E) (subv p (u.drop w) (r.drop w) (nth (u.drop w) (ld (r.drop w))));rw[ld_drop q (by rw[hr.len]; exact hlr),jX,show w+(ld r - w)=ld r by omega]
   congr 1
   unfold subv;rw[List.drop_zipWith]
  ·have et:zX w (r::E)=zX w E:=by simp[zX,q]
   have e:subv p u r (nth u (ld r))=u:=by rw[hz _ (by omega)]; exact sub_zero hp hu hr.len
   rw[et,e];exact rest_tails hp hE' hu hz
theorem drop_zv(w n:Nat):(zv (w+n)).drop w=zv n:=by simp[zv]
theorem qJ.drop{n:Nat}{u:List Int}(hu:qJ p (w+n) u):qJ p n (u.drop w):=⟨by rw[yQ,hu.len]; omega,fun j hj=> by rw[jX]; exact hu.rng _ (by omega)⟩
theorem kernel_sp(hp:1 < p){rows E:List (List Int)}(h:Rows p w rows)(hE:zj p (w+rows.length) (jp rows.length rows) E){c:List Int}:Sp p rows.length (zX w E) c↔qJ p rows.length c∧∀j,j < w→Cg p (dot (nth c) rows rows.length j) 0:=by
 have hp0:0 < p:=by omega
 have ht:=tails_red hE.red;constructor
 ·intro hc
  induction hc with
  |zero=> exact⟨zM hp0 _,fun j _=> by rw[dot_zero fun i _=> zm _ _]; exact .refl _ _⟩
  | @sub v r k hv hr ih=>
   have hr':=ht.ok r hr;refine⟨qT hp0 ih.1.len hr'.len,fun j hj=>?_⟩;obtain⟨s,hs,rfl⟩:=wL.1 hr;obtain⟨s1,s2⟩:=uF.1 hs;have s2':w≤ld s:=by simpa using s2
   have hg:=(longs_sp hp h).1 ((hE.sp s).1 (.mem hp0 hE.red.ok s1));have h1:=hg.at_ j hj;rw[zx (by omega)]at h1;have h2:Cg p (dot (nth (s.drop w)) rows rows.length j) 0:=by
    refine Cg.trans ?_ h1.symm;rw[show dot (nth (s.drop w)) rows rows.length j=dot (fun i=> nth s (w+i)) rows rows.length j from jn fun i _=> by rw[jX]];exact .refl _ _
   refine Cg.trans (dot_cg fun i hi=> qX ih.1.len hr'.len hi) ?_;rw[dot_lin];exact(Cg.sub (ih.2 j hj) (.mul (.refl _ k) h2)).trans ⟨0,by simp⟩
 ·rintro⟨hc,hd⟩
  have hu:Graph p w rows.length rows (zv w++c):=by
   have e:∀i,nth (zv w++c) (w+i)=nth c i:=fun i=> by rw[nth_app,show(zv w).length=w by simp[zv],if_neg (by omega),show w+i - w=i by omega]
   have e0:∀j,j < w→nth (zv w++c) j=0:=fun j hj=> by rw[nth_app,show(zv w).length=w by simp[zv],if_pos hj,zm]
   refine⟨⟨by rw[wP,hc.len]; simp[zv],fun j hj=>?_⟩,fun j hj=>?_⟩
   ·by_cases q:j < w
    ·rw[e0 j q]; omega
    ·rw[show j=w+(j - w) by omega,e]; exact hc.rng _ (by omega)
   ·rw[e0 j hj,show dot (fun i=> nth (zv w++c) (w+i)) rows rows.length j=dot (nth c) rows rows.length j from jn fun i _=> by simp only; rw[e]]
    exact(hd j hj).symm
  have hS:=(hE.sp _).2 ((longs_sp hp h).2 hu);have hz:=(zY hp0 hE.red hu.ok).2 hS;have e1:=rest_tails hp0 hE.red hu.ok fun j hj=> by rw[nth_app,show(zv w).length=w by simp[zv],if_pos hj,zm]
  have e2:(zv w++c).drop w=c:=by rw[List.drop_append_of_le_length (by simp[zv])]; simp[zv]
  rw[hz,drop_zv,e2]at e1;exact(zY hp0 ht hc).1 e1.symm
end
end Rv
namespace Rv
section
variable {p:Int} {w:Nat}
theorem Sp.split(hp:0 < p){A B:List (List Int)}(hA:Rows p w A)(hB:Rows p w B){v:List Int}(hv:Sp p w (A++B) v):∃a b,Sp p w A a∧Sp p w B b∧v=subv p a b (-1):=by
 have hz:=zM hp w;induction hv with
 |zero=> exact⟨_,_,.zero,.zero,(hz.ext (qT hp hz.len hz.len) fun j hj=>((qX hz.len hz.len hj).trans (by rw[zm]; exact⟨0,by simp⟩)).symm)⟩
 | @sub v r k hv hr ih=>
  obtain⟨a,b,ha,hb,rfl⟩:=ih;have ao:=ha.ok hp hA;have bo:=hb.ok hp hB;have so:=qT hp ao.len bo.len (k:= -1);rcases wK.1 hr with q|q
  ·have ro:=hA r q
   have aro:=qT hp ao.len ro.len (k:=k);refine⟨_,b,.sub k ha q,hb,(qT hp so.len ro.len).ext (qT hp aro.len bo.len) fun j hj=>?_⟩;refine(qX so.len ro.len hj).trans (Cg.trans (.sub (qX ao.len bo.len hj) (.refl _ _)) (Cg.symm ((qX aro.len bo.len hj).trans (Cg.trans (.sub (qX ao.len ro.len hj) (.refl _ _)) ⟨0,by grind⟩))))
  ·have ro:=hB r q
   have bro:=qT hp bo.len ro.len (k:=k);refine⟨a,_,ha,.sub k hb q,(qT hp so.len ro.len).ext (qT hp ao.len bro.len) fun j hj=>?_⟩;refine(qX so.len ro.len hj).trans (Cg.trans (.sub (qX ao.len bo.len hj) (.refl _ _)) (Cg.symm ((qX ao.len bro.len hj).trans (Cg.trans (.sub (.refl _ _) (.mul (.refl _ _) (qX bo.len ro.len hj))) ⟨0,by grind⟩))))
theorem sumI_shift{f:Nat→Int}:∀ {n:Nat},sumI f (n+1)=f 0+sumI (fun i=> f (i+1)) n
 |0=> by simp[sumI]
 |n+1=> by
  have:=sumI_shift (f:=f) (n:=n);show sumI f (n+1)+f (n+1)=f 0+(sumI (fun i=> f (i+1)) n+f (n+1));omega
theorem comb_dot{v:List Int}{j:Nat}:∀ {R:List (List Int)},comb R v j=dot (nth (zC R v)) R R.length j
 | []=> rfl
 |r::R=> by
  have ih:=comb_dot (v:=v) (j:=j) (R:=R);unfold dot at ih ⊢;rw[vK,sumI_shift];show nth v (ld r)*nth r j+comb R v j=_;rw[ih];rfl
theorem sp_dot(hp:0 < p){A:List (List Int)}(hA:Red p w A){v:List Int}(hv:Sp p w A v){j:Nat}(hj:j < w):Cg p (nth v j) (dot (nth (zC A v)) A A.length j):=by
 rw[←comb_dot]; exact hA.coord hp hv j hj
end
end Rv
namespace Rv
section
variable {p:Int} {w n:Nat}
theorem ech_len(hp:1 < p)(hi:HasInv p){L:List (List Int)}(hL:Rows p w L):∃E,zj p w L E∧E.length≤L.length:=by
 have key:∀k,k≤L.length→∃E,zj p w (L.take k) E∧E.length≤k:=by
  intro k;induction k with
  |zero=> intro _; exact⟨[],by simpa using zj.nil p w,by simp⟩
  |succ k ih=>
   intro hk;obtain⟨E,h1,h2⟩:=ih (by omega);obtain⟨F,f1,f2,f3⟩:=ech_step hp hi h1 (fun r hr=> hL r (wM hr)) (hL _ (wB (show k < L.length by omega)));rw[wT]at f1;refine⟨F,f1,?_⟩;by_cases q:Sp p w (L.take k) L[k]
   ·rw[f2 q]; omega
   ·rw[f3 q]; omega
 obtain⟨E,h1,h2⟩:=key L.length (wD _);rw[vH]at h1;exact⟨E,h1,h2⟩
end
end Rv
namespace Rv
set_option maxRecDepth 10000
theorem rel_count{p:Int}{w w':Nat}(hp:1 < p)(hi:HasInv p){φ:List Int→List Int}(hφ:Lin p w w' φ){A N K E:List (List Int)}(hA:Red p w' A)(hN:Red p w N)(hK:Red p w K)
  (hs:∀v,Sp p w K v↔Sp p w N v∧Sp p w' A (φ v)) (hE:zj p w' (A++N.map φ) E):E.length+K.length=A.length+N.length:=by
 have hp0:0 < p:=by omega
 have app:∀ {w:Nat} {S T:List (List Int)},Rows p w S→Rows p w T→Rows p w (S++T):=fun hS hT r hr=>(wK.1 hr).elim (hS r) (hT r);have hl:=rest_lin hp0 hA.ok fun r hr=>(hA.one r hr).1;have hψ:Lin p w w' fun u=> rest p A (φ u):=hφ.comp hl;have hψN:Rows p w' (N.map fun u=> rest p A (φ u)):=hψ.rows hN.ok;obtain⟨E',hE', -⟩:=ech_len hp hi hψN;have hKN:zj p w (K++N) N:=⟨hN,fun v=>⟨fun h=> h.mono fun r hr=> vF _ hr,fun h=> Sp.into hp0 hN.ok (fun r hr=>(wK.1 hr).elim (fun q=>((hs r).1 (.mem hp0 hK.ok q)).1) fun q=> .mem hp0 hN.ok q) h⟩⟩;have tk:∀k,Rows p w (N.take k):=fun k r hr=> hN.ok r (wM hr);have a:=rank_pair hp hi hK.ok (zj.self hK) (Z:=N) (f:=id) (g:=fun u=> rest p A (φ u)) (fun z hz=> hN.ok z hz) (fun z hz=> hψ.ok z (hN.ok z hz)) (fun k hk=> by
  have hv:=hN.ok _ (wB hk);have hKT:=app hK.ok (tk k);rw[List.map_id];show Sp p w (K++N.take k) N[k]↔_;constructor
  ·intro h
   have h':=hψ.sp hp0 hKT h;refine Sp.into hp0 (hψ.rows (tk k)) (fun r hr=>?_) h';obtain⟨b,hb,rfl⟩:=wL.1 hr;rcases wK.1 hb with q|q
   ·have:=((hs b).1 (.mem hp0 hK.ok q)).2
    rw[(zY hp0 hA (this.ok hp0 hA.ok)).2 this]; exact .zero
   ·exact .mem hp0 (hψ.rows (tk k)) (wL.2 ⟨b,q,rfl⟩)
  ·intro h
   obtain⟨u,hu,e⟩:=hψ.lift hp0 (tk k) h;have hu':Sp p w (K++N.take k) u:=hu.mono fun r hr=> vF _ hr;have huv:=hu.ok hp0 (tk k);have hd:Sp p w N (subv p N[k] u 1):=Sp.lin hp0 hN.ok (.mem hp0 hN.ok (wB hk)) (hu.mono fun r hr=> wM hr) 1;have hdv:=hd.ok hp0 hN.ok;have hz:rest p A (φ (subv p N[k] u 1))=zv w':=by
    have e2:=hψ.sub _ _ 1 hv huv;rw[e2,←e,sub_self hp0 (hψ.ok u huv)]
   have hin:Sp p w K (subv p N[k] u 1):=(hs _).2 ⟨hd,(zY hp0 hA (hφ.ok _ hdv)).1 hz⟩;have hin':Sp p w (K++N.take k) (subv p N[k] u 1):=hin.mono fun r hr=> vJ _ hr;have hsum:=Sp.lin hp0 hKT hin' hu' (-1);have e3:subv p (subv p N[k] u 1) u (-1)=N[k]:=by
    refine qJ.ext (hsum.ok hp0 hKT) hv fun j hj=>?_;have l1:=hv.len;have l2:=huv.len;have l3:=hdv.len;rw[zn l3 l2 hj,zn l1 l2 hj];refine Cg.trans (.mod _ _) (Cg.trans (Cg.sub (.mod _ _) (.refl _ _)) ?_);rw[show nth N[k] j - 1*nth u j - -1*nth u j=nth N[k] j by omega];exact .refl _ _
   rwa[e3]at hsum) (by rw[List.map_id]; exact hKN) hE'
 have b:=rank_pair hp hi hA.ok (zj.self hA) (Z:=N) (f:=φ) (g:=fun u=> rest p A (φ u)) (fun z hz=> hφ.ok z (hN.ok z hz)) (fun z hz=> hψ.ok z (hN.ok z hz)) (fun k hk=> by
  have hv:=hN.ok _ (wB hk);have hT:Rows p w' ((N.take k).map φ):=hφ.rows (tk k);have hAT:=app hA.ok hT;have e1:(N.take k).map (fun u=> rest p A (φ u))=((N.take k).map φ).map (rest p A):=by rw[List.map_map]; rfl
  rw[e1];constructor
  ·intro h
   have h':=hl.sp hp0 hAT h;refine Sp.into hp0 (hl.rows hT) (fun r hr=>?_) h';obtain⟨b,hb,rfl⟩:=wL.1 hr;rcases wK.1 hb with q|q
   ·rw[(zY hp0 hA (hA.ok b q)).2 (.mem hp0 hA.ok q)]; exact .zero
   ·exact .mem hp0 (hl.rows hT) (wL.2 ⟨b,q,rfl⟩)
  ·intro h
   obtain⟨u,hu,e⟩:=hl.lift hp0 hT h;have hAs:∀r∈A,Sp p w' (A++(N.take k).map φ) r:=fun r hr=> .mem hp0 hAT (vJ _ hr);have hu':Sp p w' (A++(N.take k).map φ) u:=hu.mono fun r hr=> vF _ hr;refine(jb hp0 hAT hA.ok hAs (hφ.ok _ hv)).1 ?_;rw[←e];exact(jb hp0 hAT hA.ok hAs (hu.ok hp0 hT)).2 hu') hE hE'
 omega
end Rv
namespace Rv
set_option maxRecDepth 10000
theorem lin_dot{p:Int}{w w':Nat}(hp:0 < p){φ:List Int→List Int}(hφ:Lin p w w' φ){A:List (List Int)}(hA:Rows p w A){f:Nat→Int}{k:Nat}(hk:k < w'):∀n,n≤A.length→∀v,qJ p w v→(∀j,j < w→Cg p (nth v j) (dot f A n j))→Cg p (nth (φ v) k) (dot f (A.map φ) n k)
 |0,_,v,hv,h=> by
  have hz:v=zv w:=hv.ext (zM hp w) fun j hj=>(h j hj).trans (by rw[zm]; exact .refl _ _);rw[hz,hφ.zero hp,zm]; exact .refl _ _
 |n+1,hn,v,hv,h=> by
  have hr:=hA _ (zL (show n < A.length by omega));have hv':=qT hp hv.len hr.len (k:=f n);have ih:=lin_dot hp hφ hA hk n (by omega) (subv p v (qy A n) (f n)) hv' fun j hj=> by
   refine(qX hv.len hr.len hj).trans ?_;have e:dot f A n j=dot f A (n+1) j - f n*nth (qy A n) j:=by
    show sumI _ n=sumI _ n+f n*nth (qy A n) j - _;omega
   rw[e];exact .sub (h j hj) (.refl _ _)
  rw[hφ.sub v _ (f n) hv hr]at ih;have h1:=hφ.ok v hv;have h2:=hφ.ok _ hr;have c:=(qX h1.len h2.len hk).symm.trans ih;have e2:qy (A.map φ) n=φ (qy A n):=by
   unfold qy;rw[List.getD_eq_getElem?_getD,List.getElem?_map,List.getElem?_eq_getElem (by omega),List.getD_eq_getElem?_getD,List.getElem?_eq_getElem (by omega)]; rfl
  have d:=Cg.add c (Cg.refl p (f n*nth (φ (qy A n)) k));have e3:nth (φ v) k - f n*nth (φ (qy A n)) k+f n*nth (φ (qy A n)) k=nth (φ v) k:=by omega
  rw[e3]at d;have e4:dot f (A.map φ) n k+f n*nth (φ (qy A n)) k=dot f (A.map φ) (n+1) k:=by
   show _=sumI _ n+f n*nth (qy (A.map φ) n) k;rw[e2]; rfl
  rwa[e4]at d
end Rv
