/- The plain law: what the typed functions answer -/
import Derived.Test.YtfecoipgcigamaaKos1
namespace Rv
theorem ob.{u,v} {α:Type u} {β:Type v} (a:α) (f:α→Option β):(some a).bind f=f a:=rfl
set_option linter.unusedVariables false
set_option linter.unusedSimpArgs false
def Cg(p a b:Int):Prop:=∃m,a=b+p*m
theorem Cg.refl(p a:Int):Cg p a a:=⟨0,by simp⟩
theorem Cg.symm{p a b:Int}(h:Cg p a b):Cg p b a:=by
 obtain⟨m,rfl⟩:=h; exact⟨-m,by grind⟩
theorem Cg.trans{p a b c:Int}(h:Cg p a b)(k:Cg p b c):Cg p a c:=by
 obtain⟨m,rfl⟩:=h; obtain⟨n,rfl⟩:=k; exact⟨n+m,by grind⟩
theorem Cg.add{p a b c d:Int}(h:Cg p a b)(k:Cg p c d):Cg p (a+c) (b+d):=by
 obtain⟨m,rfl⟩:=h; obtain⟨n,rfl⟩:=k; exact⟨m+n,by grind⟩
theorem Cg.sub{p a b c d:Int}(h:Cg p a b)(k:Cg p c d):Cg p (a - c) (b - d):=by
 obtain⟨m,rfl⟩:=h; obtain⟨n,rfl⟩:=k; exact⟨m - n,by grind⟩
theorem Cg.mul{p a b c d:Int}(h:Cg p a b)(k:Cg p c d):Cg p (a*c) (b*d):=by
 obtain⟨m,rfl⟩:=h; obtain⟨n,rfl⟩:=k; exact⟨b*n+m*d+p*(m*n),by grind⟩
theorem Cg.mod(p a:Int):Cg p (a% p) a:=⟨-(a/p),by have:=Int.emod_add_mul_ediv a p; grind⟩
theorem Cg.eq{p a b:Int}(h:Cg p a b)(a0:0≤a)(a1:a < p)(b0:0≤b)(b1:b < p):a=b:=by
 obtain⟨m,hm⟩:=h;have:a% p=b% p:=by rw[hm,Int.add_mul_emod_self_left]
 rwa[Int.emod_eq_of_lt a0 a1,Int.emod_eq_of_lt b0 b1]at this
theorem Cg.emod{p a b:Int}(h:Cg p a b):a% p=b% p:=by
 obtain⟨m,rfl⟩:=h; rw[Int.add_mul_emod_self_left]
def nth(v:List Int)(j:Nat):Int:=v.getD j 0
theorem nth_lt{v:List Int}{j:Nat}(h:j < v.length):nth v j=v[j]:=by simp[nth,h]
theorem nth_out{v:List Int}{j:Nat}(h:v.length≤j):nth v j=0:=by simp[nth,h]
theorem nth_ext{u v:List Int}(hl:u.length=v.length)(h:∀j,j < u.length→nth u j=nth v j):u=v:=by
 apply List.ext_getElem hl;intro j h1 h2;have:=h j h1
 rwa[nth_lt h1,nth_lt h2]at this
structure VecOK (p:Int) (w:Nat) (v:List Int):Prop where
 len:v.length=w
 rng:∀j,j < w→0≤nth v j∧nth v j < p
theorem VecOK.ext{p:Int}{w:Nat}{u v:List Int}(hu:VecOK p w u)(hv:VecOK p w v)(h:∀j,j < w→Cg p (nth u j) (nth v j)):u=v:=
 nth_ext (hu.len.trans hv.len.symm) fun j hj=> by
  rw[hu.len]at hj;exact(h j hj).eq (hu.rng j hj).1 (hu.rng j hj).2 (hv.rng j hj).1 (hv.rng j hj).2
def zv(w:Nat):List Int:=List.replicate w 0
theorem nth_zv(w j:Nat):nth (zv w) j=0:=by
 rcases Nat.lt_or_ge j w with h|h
 ·simp[nth,zv,h]
 ·exact nth_out (by simpa[zv]using h)
theorem zv_ok{p:Int}(hp:0 < p)(w:Nat):VecOK p w (zv w):=⟨by simp[zv],fun j _=> by rw[nth_zv]; omega⟩
def subv(p:Int)(v u:List Int)(k:Int):List Int:=List.zipWith (fun a b=>(a - k*b)% p) v u
theorem nth_sub{p:Int}{w:Nat}{v u:List Int}{k:Int}(hv:v.length=w)(hu:u.length=w){j:Nat}(hj:j < w):nth (subv p v u k) j=(nth v j - k*nth u j)% p:=by
 have h1:j < (subv p v u k).length:=by simp[subv]; omega
 rw[nth_lt h1,nth_lt (show j < v.length by omega),nth_lt (show j < u.length by omega)];simp[subv]
theorem sub_cg{p:Int}{w:Nat}{v u:List Int}{k:Int}(hv:v.length=w)(hu:u.length=w){j:Nat}(hj:j < w):Cg p (nth (subv p v u k) j) (nth v j - k*nth u j):=by
 rw[nth_sub hv hu hj]; exact .mod _ _
theorem sub_ok{p:Int}(hp:0 < p){w:Nat}{v u:List Int}{k:Int}(hv:v.length=w)(hu:u.length=w):VecOK p w (subv p v u k):=
 ⟨by simp[subv,hv,hu],fun j hj=> by rw[nth_sub hv hu hj]; exact⟨Int.emod_nonneg _ (by omega),Int.emod_lt_of_pos _ hp⟩⟩
inductive Sp (p:Int) (w:Nat) (R:List (List Int)):List Int→Prop
 |zero:Sp p w R (zv w)
 |sub {v r:List Int} (k:Int):Sp p w R v→r∈R→Sp p w R (subv p v r k)
abbrev Rows(p:Int)(w:Nat)(R:List (List Int)):Prop:=∀r∈R,VecOK p w r
section
variable {p:Int} {w:Nat} {R:List (List Int)}
theorem Sp.ok(hp:0 < p)(hR:Rows p w R){v:List Int}(h:Sp p w R v):VecOK p w v:=by
 induction h with
 |zero=> exact zv_ok hp w
 |sub k _ hr ih=> exact sub_ok hp ih.len (hR _ hr).len
theorem Sp.lin(hp:0 < p)(hR:Rows p w R){u v:List Int}(hu:Sp p w R u)(hv:Sp p w R v)(k:Int):Sp p w R (subv p u v k):=by
 induction hv generalizing u k with
 |zero=>
  have hu':=hu.ok hp hR;have:subv p u (zv w) k=u:=(sub_ok hp hu'.len (zv_ok hp w).len).ext hu' fun j hj=>(sub_cg hu'.len (zv_ok hp w).len hj).trans (by rw[nth_zv]; exact⟨0,by grind⟩);rw[this]; exact hu
 | @sub v r k' hv hr ih=>
  have hu':=hu.ok hp hR;have hv':=hv.ok hp hR;have hr':=hR _ hr;have h1:=ih hu k;have h1':=h1.ok hp hR;have:subv p u (subv p v r k') k=subv p (subv p u v k) r (-(k*k')):=(sub_ok hp hu'.len (sub_ok hp hv'.len hr'.len).len).ext (sub_ok hp h1'.len hr'.len) fun j hj=> by
   refine(sub_cg hu'.len (sub_ok hp hv'.len hr'.len).len hj).trans (Cg.trans (.sub (.refl _ _) (.mul (.refl _ _) (sub_cg hv'.len hr'.len hj))) (Cg.symm ((sub_cg h1'.len hr'.len hj).trans (Cg.trans (.sub (sub_cg hu'.len hv'.len hj) (.refl _ _)) ?_))));exact⟨0,by grind⟩
  rw[this];exact .sub _ h1 hr
theorem Sp.mem(hp:0 < p)(hR:Rows p w R){r:List Int}(hr:r∈R):Sp p w R r:=by
 have h:=Sp.sub (-1) (Sp.zero (p:=p) (w:=w) (R:=R)) hr;have hr':=hR _ hr;have:subv p (zv w) r (-1)=r:=(sub_ok hp (zv_ok hp w).len hr'.len).ext hr' fun j hj=>(sub_cg (zv_ok hp w).len hr'.len hj).trans (by rw[nth_zv]; exact⟨0,by grind⟩)
 rwa[this]at h
theorem Sp.scale(hp:0 < p)(hR:Rows p w R){v:List Int}(hv:Sp p w R v)(k:Int):Sp p w R (subv p (zv w) v k):=Sp.lin hp hR .zero hv k
theorem Sp.into{T:List (List Int)}(hp:0 < p)(hT:Rows p w T)(h:∀r∈R,Sp p w T r){v:List Int}(hv:Sp p w R v):Sp p w T v:=by
 induction hv with
 |zero=> exact .zero
 |sub k _ hr ih=> exact Sp.lin hp hT ih (h _ hr) k
theorem Sp.mono{T:List (List Int)}(h:∀r∈R,r∈T){v:List Int}(hv:Sp p w R v):Sp p w T v:=by
 induction hv with
 |zero=> exact .zero
 |sub k _ hr ih=> exact .sub k ih (h _ hr)
theorem sub_back(hp:0 < p){v u:List Int}(hv:VecOK p w v)(hu:VecOK p w u)(k:Int):subv p (subv p v u k) u (-k)=v:=
 (sub_ok hp (sub_ok hp hv.len hu.len).len hu.len).ext hv fun j hj=>(sub_cg (sub_ok hp hv.len hu.len).len hu.len hj).trans (Cg.trans (.sub (sub_cg hv.len hu.len hj) (.refl _ _)) ⟨0,by grind⟩)
theorem sub_iff(hp:0 < p){T:List (List Int)}(hT:Rows p w T){v u:List Int}(hv:VecOK p w v)(hu:Sp p w T u)(k:Int):Sp p w T (subv p v u k)↔Sp p w T v:=
 ⟨fun h=> by have:=Sp.lin hp hT h hu (-k); rwa[sub_back hp hv (hu.ok hp hT)]at this,fun h=> Sp.lin hp hT h hu k⟩
end
def ld(r:List Int):Nat:=r.findIdx (fun x=> x != 0)
theorem ld_zero{r:List Int}{j:Nat}(h:j < ld r):nth r j=0:=by
 have hj:j < r.length:=Nat.lt_of_lt_of_le h List.findIdx_le_length;have:=List.not_of_lt_findIdx h;rw[nth_lt hj];simpa using this
theorem ld_ne{r:List Int}(h:ld r < r.length):nth r (ld r)≠0:=by
 rw[nth_lt h];have h':(r.findIdx fun x=> x != 0) < r.length:=h;have:=List.findIdx_getElem (w:=h');intro e;have e':r[r.findIdx fun x=> x != 0]=0:=e;rw[e']at this;simp at this
theorem ld_of{r:List Int}{l:Nat}(h0:∀j,j < l→nth r j=0)(h1:nth r l≠0):ld r=l:=by
 have hl:l < r.length:=by
  rcases Nat.lt_or_ge l r.length with h|h
  ·exact h
  ·exact absurd (nth_out h) h1
 rcases Nat.lt_trichotomy (ld r) l with h|h|h
 ·exact absurd (h0 _ h) (ld_ne (by omega))
 ·exact h
 ·exact absurd (ld_zero h) h1
structure Red (p:Int) (w:Nat) (R:List (List Int)):Prop where
 ok:Rows p w R
 one:∀r∈R,ld r < w∧nth r (ld r)=1
 ord:R.Pairwise fun r s=> ld r < ld s∧nth r (ld s)=0
def comb(R:List (List Int))(v:List Int)(j:Nat):Int:=match R with
 | []=> 0
 |r::R=> nth v (ld r)*nth r j+comb R v j
theorem comb_zero{R:List (List Int)}{v:List Int}{j:Nat}(h:∀r∈R,nth v (ld r)=0∨nth r j=0):comb R v j=0:=by
 induction R with
 |nil=> rfl
 |cons r R ih=>
  unfold comb;rw[ih fun s hs=> h s (List.mem_cons_of_mem _ hs)];rcases h r List.mem_cons_self with h|h <;> rw[h] <;> simp
theorem comb_lin{p:Int}{w:Nat}{v u:List Int}{k:Int}(hv:v.length=w)(hu:u.length=w){j:Nat}:∀ {R:List (List Int)},(∀r∈R,ld r < w)→Cg p (comb R (subv p v u k) j) (comb R v j - k*comb R u j)
 | [],_=>⟨0,by simp[comb]⟩
 |r::R,h=> by
  unfold comb;refine Cg.trans (.add (.mul (sub_cg hv hu (h r List.mem_cons_self)) (.refl _ _)) (comb_lin hv hu fun s hs=> h s (List.mem_cons_of_mem _ hs))) ⟨0,by grind⟩
theorem comb_self{p:Int}{w:Nat}{j:Nat}:∀ {R:List (List Int)} (h:Red p w R) {s:List Int} (hs:s∈R),comb R s j=nth s j
 |r::R,h,s,hs=> by
  have hp:=List.pairwise_cons.1 h.ord;unfold comb;rcases List.mem_cons.1 hs with rfl|hs
  ·rw[(h.one _ List.mem_cons_self).2,comb_zero fun t ht=> .inl (hp.1 t ht).2]; simp
  ·rw[ld_zero (hp.1 s hs).1,comb_self ⟨fun t ht=> h.ok t (List.mem_cons_of_mem _ ht),fun t ht=> h.one t (List.mem_cons_of_mem _ ht),hp.2⟩ hs]; simp
theorem Red.coord{p:Int}{w:Nat}{R:List (List Int)}(hp:0 < p)(h:Red p w R){v:List Int}(hv:Sp p w R v)(j:Nat)(hj:j < w):Cg p (nth v j) (comb R v j):=by
 induction hv with
 |zero=> rw[nth_zv,comb_zero fun r _=> .inl (nth_zv _ _)]; exact .refl _ _
 | @sub v r k hv hr ih=>
  have hv':=hv.ok hp h.ok;have hr':=h.ok _ hr;refine(sub_cg hv'.len hr'.len hj).trans (Cg.trans (.sub ih (.refl _ _)) (Cg.symm ((comb_lin hv'.len hr'.len fun s hs=>(h.one s hs).1).trans ?_)));rw[comb_self h hr]; exact .refl _ _
theorem Red.lead{p:Int}{w:Nat}{R:List (List Int)}(hp:0 < p)(h:Red p w R){v:List Int}(hv:Sp p w R v)(hl:ld v < w):∃r∈R,ld r=ld v:=by
 refine Classical.byContradiction fun hn=>?_;have hv':=hv.ok hp h.ok;have hc:=h.coord hp hv (ld v) hl;rw[comb_zero fun r hr=>?_]at hc
 ·have:=hc.eq (hv'.rng _ hl).1 (hv'.rng _ hl).2 (Int.le_refl _) hp
  exact ld_ne (by rw[hv'.len]; exact hl) this
 ·rcases Nat.lt_trichotomy (ld r) (ld v)with q|q|q
  ·exact .inl (ld_zero q)
  ·exact absurd ⟨r,hr,q⟩ hn
  ·exact .inr (ld_zero q)
theorem sorted_eq:∀ {a b:List Nat},a.Pairwise (·< ·)→b.Pairwise (·< ·)→(∀x,x∈a↔x∈b)→a=b
 | [],[],_,_,_=> rfl
 | [],y::b,_,_,h=> by have:=(h y).2 List.mem_cons_self; simp at this
 |x::a,[],_,_,h=> by have:=(h x).1 List.mem_cons_self; simp at this
 |x::a,y::b,ha,hb,h=> by
  obtain⟨a1,a2⟩:=List.pairwise_cons.1 ha;obtain⟨b1,b2⟩:=List.pairwise_cons.1 hb;have e:x=y:=by
   rcases List.mem_cons.1 ((h x).1 List.mem_cons_self)with q|q
   ·exact q
   ·rcases List.mem_cons.1 ((h y).2 List.mem_cons_self)with q'|q'
    ·exact q'.symm
    ·have:=b1 x q; have:=a1 y q'; omega
  subst e;rw[sorted_eq a2 b2 fun z=>⟨fun hz=>?_,fun hz=>?_⟩]
  ·rcases List.mem_cons.1 ((h z).1 (List.mem_cons_of_mem _ hz))with rfl|q
   ·exact absurd (a1 _ hz) (Nat.lt_irrefl _)
   ·exact q
  ·rcases List.mem_cons.1 ((h z).2 (List.mem_cons_of_mem _ hz))with rfl|q
   ·exact absurd (b1 _ hz) (Nat.lt_irrefl _)
   ·exact q
theorem Red.leads{p:Int}{w:Nat}{R:List (List Int)}(h:Red p w R):(R.map ld).Pairwise (·< ·):=by
 rw[List.pairwise_map];exact h.ord.imp fun q=> q.1
theorem Red.unique{p:Int}{w:Nat}{R S:List (List Int)}(hp:0 < p)(hR:Red p w R)(hS:Red p w S)(h:∀v,Sp p w R v↔Sp p w S v):R=S:=by
 have hL:R.map ld=S.map ld:=sorted_eq hR.leads hS.leads fun x=> by
  constructor
  ·intro hx
   obtain⟨r,hr,rfl⟩:=List.mem_map.1 hx;obtain⟨s,hs,e⟩:=hS.lead hp ((h r).1 (.mem hp hR.ok hr)) (hR.one r hr).1;exact List.mem_map.2 ⟨s,hs,e⟩
  ·intro hx
   obtain⟨r,hr,rfl⟩:=List.mem_map.1 hx;obtain⟨s,hs,e⟩:=hR.lead hp ((h r).2 (.mem hp hS.ok hr)) (hS.one r hr).1;exact List.mem_map.2 ⟨s,hs,e⟩
 have hlen:R.length=S.length:=by have:=congrArg List.length hL; simpa using this
 apply List.ext_getElem hlen;intro i h1 h2;have hr:=List.getElem_mem h1;have hs:=List.getElem_mem h2;have r1:=hR.ok _ hr;have s1:=hS.ok _ hs;have ldq:∀k (a:k < R.length) (b:k < S.length),ld R[k]=ld S[k]:=fun k a b=> by
  have:(R.map ld)[k]'(by simpa using a)=(S.map ld)[k]'(by simpa using b):=by simp only[hL]
  simpa using this
 -- their difference
 have hd:Sp p w R (subv p R[i] S[i] 1):=Sp.lin hp hR.ok (.mem hp hR.ok hr) ((h _).2 (.mem hp hS.ok hs)) 1;have hdk:=hd.ok hp hR.ok;have val:∀ (T:List (List Int)) (hT:Red p w T) (a b:Nat) (ha:a < T.length) (hb:b < T.length),nth T[a] (ld T[b])=if a=b then 1 else 0:=fun T hT a b ha hb=> by
  rcases Nat.lt_trichotomy a b with q|q|q
  ·rw[if_neg (by omega)]; exact(List.pairwise_iff_getElem.1 hT.ord a b ha hb q).2
  ·subst q; rw[if_pos rfl]; exact(hT.one _ (List.getElem_mem ha)).2
  ·rw[if_neg (by omega)]; exact ld_zero (List.pairwise_iff_getElem.1 hT.ord b a hb ha q).1
 refine r1.ext s1 fun j hj=>?_;have hc:=hR.coord hp hd j hj;rw[comb_zero fun r hr'=> .inl ?_]at hc
 ·have:=(sub_cg r1.len s1.len hj).symm.trans hc
  obtain⟨m,hm⟩:=this;exact⟨m,by grind⟩
 ·obtain⟨k,hk,rfl⟩:=List.getElem_of_mem hr'
  have hkw:=(hR.one _ (List.getElem_mem hk)).1;have e1:=val R hR i k h1 hk;have e2:=val S hS i k h2 (by omega);rw[←ldq k hk (by omega)]at e2;have hcg:=sub_cg (p:=p) (k:=1) r1.len s1.len hkw;rw[e1,e2]at hcg;refine hcg.trans ⟨0,by grind⟩|>.eq (hdk.rng _ hkw).1 (hdk.rng _ hkw).2 (Int.le_refl _) hp
end Rv
namespace Rv
set_option linter.unusedVariables false
set_option linter.unusedSimpArgs false
section
variable {p:Int} {w:Nat}
theorem sub_zero(hp:0 < p){v u:List Int}(hv:VecOK p w v)(hu:u.length=w):subv p v u 0=v:=
 (sub_ok hp hv.len hu).ext hv fun j hj=>(sub_cg hv.len hu hj).trans ⟨0,by grind⟩
def scl(p:Int)(v:List Int)(k:Int):List Int:=v.map fun x=> x*k% p
theorem scl_sub(hp:0 < p){v:List Int}(hv:VecOK p w v)(k:Int):scl p v k=subv p (zv w) v (-k):=by
 have hl:(scl p v k).length=w:=by simp[scl,hv.len]
 refine nth_ext (hl.trans (sub_ok hp (zv_ok hp w).len hv.len).len.symm) fun j hj=>?_;rw[hl]at hj;rw[nth_sub (zv_ok hp w).len hv.len hj,nth_zv,nth_lt (by rw[hl]; exact hj),nth_lt (show j < v.length by rw[hv.len]; exact hj)];simp only[scl,List.getElem_map]
 congr 1; grind
theorem nth_scl(hp:0 < p){v:List Int}(hv:VecOK p w v)(k:Int){j:Nat}(hj:j < w):Cg p (nth (scl p v k) j) (nth v j*k):=by
 rw[scl_sub hp hv];exact(sub_cg (zv_ok hp w).len hv.len hj).trans (by rw[nth_zv]; exact⟨0,by grind⟩)
theorem scl_ok(hp:0 < p){v:List Int}(hv:VecOK p w v)(k:Int):VecOK p w (scl p v k):=by
 rw[scl_sub hp hv]; exact sub_ok hp (zv_ok hp w).len hv.len
theorem scl_back(hp:0 < p){v:List Int}(hv:VecOK p w v){k m:Int}(hk:Cg p (m*k) 1):subv p (zv w) (scl p v k) (-m)=v:=
 (sub_ok hp (zv_ok hp w).len (scl_ok hp hv k).len).ext hv fun j hj=>(sub_cg (zv_ok hp w).len (scl_ok hp hv k).len hj).trans (by
  rw[nth_zv];have h1:=Cg.mul (Cg.refl p m) (nth_scl hp hv k hj);have h2:=Cg.mul hk (Cg.refl p (nth v j));obtain⟨a,ha⟩:=h1;obtain⟨b,hb⟩:=h2;exact⟨a+b,by grind⟩)
def rest(p:Int)(R:List (List Int))(v:List Int):List Int:=R.foldl (fun v r=> subv p v r (nth v (ld r))) v
theorem rest_ok(hp:0 < p):∀ {R:List (List Int)} (hR:Rows p w R) {v:List Int} (hv:VecOK p w v),VecOK p w (rest p R v)
 | [],_,v,hv=> hv
 |r::R,hR,v,hv=> rest_ok hp (R:=R) (fun s hs=> hR s (List.mem_cons_of_mem _ hs)) (sub_ok hp hv.len (hR r List.mem_cons_self).len)
theorem rest_iff(hp:0 < p){T:List (List Int)}(hT:Rows p w T):∀ {R:List (List Int)} (hR:Rows p w R) (h:∀r∈R,Sp p w T r) {v:List Int} (hv:VecOK p w v),Sp p w T (rest p R v)↔Sp p w T v
 | [],_,_,v,hv=> Iff.rfl
 |r::R,hR,h,v,hv=> by
  have h1:=rest_iff hp hT (R:=R) (fun s hs=> hR s (List.mem_cons_of_mem _ hs)) (fun s hs=> h s (List.mem_cons_of_mem _ hs)) (sub_ok hp hv.len (hR r List.mem_cons_self).len (k:=nth v (ld r)));exact h1.trans (sub_iff hp hT hv (h r List.mem_cons_self) _)
theorem rest_keep(hp:0 < p){j:Nat}(hj:j < w):∀ {R:List (List Int)} (hR:Rows p w R) (h:∀r∈R,nth r j=0) {v:List Int} (hv:VecOK p w v),nth v j=0→nth (rest p R v) j=0
 | [],_,_,v,hv,h0=> h0
 |r::R,hR,h,v,hv,h0=> by
  refine rest_keep hp hj (R:=R) (fun s hs=> hR s (List.mem_cons_of_mem _ hs)) (fun s hs=> h s (List.mem_cons_of_mem _ hs)) (sub_ok hp hv.len (hR r List.mem_cons_self).len) ?_;rw[nth_sub hv.len (hR r List.mem_cons_self).len hj,h0,h r List.mem_cons_self]; simp
theorem rest_lead(hp:0 < p):∀ {R:List (List Int)} (hR:Red p w R) {v:List Int} (hv:VecOK p w v),∀r∈R,nth (rest p R v) (ld r)=0
 | [],_,v,hv,r,hr=> by cases hr
 |s::R,hR,v,hv,r,hr=> by
  obtain⟨o1,o2⟩:=List.pairwise_cons.1 hR.ord;have hR':Red p w R:=⟨fun t ht=> hR.ok t (List.mem_cons_of_mem _ ht),fun t ht=> hR.one t (List.mem_cons_of_mem _ ht),o2⟩;have hs:=hR.ok s List.mem_cons_self;have hv':VecOK p w (subv p v s (nth v (ld s))):=sub_ok hp hv.len hs.len;rcases List.mem_cons.1 hr with rfl|hr
  ·refine rest_keep hp (hR.one _ List.mem_cons_self).1 hR'.ok (fun t ht=> ld_zero (o1 t ht).1) hv' ?_
   rw[nth_sub hv.len hs.len (hR.one _ List.mem_cons_self).1,(hR.one _ List.mem_cons_self).2]; simp
  ·exact rest_lead hp hR' hv' r hr
def insF(p:Int)(own:List Int)(a:Nat)(o:List Int):List Int:=subv p o own (nth o a)
def ins(p:Int)(own:List Int)(a:Nat):List (List Int)→List (List Int)
 | []=>[own]
 |o::out=> if a < ld o then own::insF p own a o::out.map (insF p own a)else insF p own a o::ins p own a out
theorem mem_ins{own:List Int}{a:Nat}{x:List Int}:∀ {out:List (List Int)},x∈ins p own a out↔x=own∨∃o∈out,x=insF p own a o
 | []=> by simp[ins]
 |o::out=> by
  unfold ins;split
  ·simp only[List.mem_cons,List.mem_map]
   constructor
   ·rintro(h|h|⟨q,h1,h2⟩)
    ·exact .inl h
    ·exact .inr ⟨o,.inl rfl,h⟩
    ·exact .inr ⟨q,.inr h1,h2.symm⟩
   ·rintro(h|⟨q,rfl|h1,h2⟩)
    ·exact .inl h
    ·exact .inr (.inl h2)
    ·exact .inr (.inr ⟨q,h1,h2.symm⟩)
  ·simp only[List.mem_cons,mem_ins (out:=out)]
   constructor
   ·rintro(h|h|⟨q,h1,h2⟩)
    ·exact .inr ⟨o,.inl rfl,h⟩
    ·exact .inl h
    ·exact .inr ⟨q,.inr h1,h2⟩
   ·rintro(h|⟨q,rfl|h1,h2⟩)
    ·exact .inr (.inl h)
    ·exact .inl h2
    ·exact .inr (.inr ⟨q,h1,h2⟩)
structure New (p:Int) (w:Nat) (R:List (List Int)) (own:List Int) (a:Nat):Prop where
 ok:VecOK p w own
 lt:a < w
 z:∀j,j < a→nth own j=0
 one:nth own a=1
 zl:∀r∈R,nth own (ld r)=0
theorem New.ld{R:List (List Int)}{own:List Int}{a:Nat}(n:New p w R own a):Rv.ld own=a:=ld_of n.z (by rw[n.one]; decide)
theorem insF_one(hp:1 < p){R:List (List Int)}{own:List Int}{a:Nat}(hR:Red p w R)(n:New p w R own a){o:List Int}(ho:o∈R):VecOK p w (insF p own a o)∧ld (insF p own a o)=ld o∧nth (insF p own a o) (ld o)=1∧nth (insF p own a o) a=0∧ld o≠a:=by
 have hok:=hR.ok o ho;have hone:=hR.one o ho;have hne:Rv.ld o≠a:=fun e=> by have:=n.zl o ho; rw[e,n.one]at this; cases this
 have h1:nth (insF p own a o) (Rv.ld o)=1:=by
  unfold insF;rw[nth_sub hok.len n.ok.len hone.1,hone.2,n.zl o ho];simp only[Int.mul_zero,Int.sub_zero];exact Int.emod_eq_of_lt (by decide) hp
 refine⟨sub_ok (by omega) hok.len n.ok.len,?_,h1,?_,hne⟩
 ·refine ld_of (fun j hj=>?_) (by rw[h1]; decide)
  have hjw:j < w:=by omega
  unfold insF;rw[nth_sub hok.len n.ok.len hjw,ld_zero hj];rcases Nat.lt_or_gt_of_ne hne with q|q
  ·rw[n.z j (by omega)]; simp
  ·rw[ld_zero q]; simp
 ·unfold insF
  rw[nth_sub hok.len n.ok.len n.lt,n.one]; simp
theorem insF_zero(hp:1 < p){R:List (List Int)}{own:List Int}{a:Nat}(hR:Red p w R)(n:New p w R own a){o s:List Int}(ho:o∈R)(hs:s∈R)(h:nth o (ld s)=0):nth (insF p own a o) (ld s)=0:=by
 unfold insF;rw[nth_sub (hR.ok o ho).len n.ok.len (hR.one s hs).1,h,n.zl s hs]; simp
theorem ins_ord(hp:1 < p){R:List (List Int)}{own:List Int}{a:Nat}(hR:Red p w R)(n:New p w R own a):∀ {out:List (List Int)},(∀o∈out,o∈R)→out.Pairwise (fun r s=> ld r < ld s∧nth r (ld s)=0)→(ins p own a out).Pairwise fun r s=> ld r < ld s∧nth r (ld s)=0
 | [],_,_=> by simp[ins]
 |o::out,hm,ho=> by
  obtain⟨o1,o2⟩:=List.pairwise_cons.1 ho;have hoR:=hm o List.mem_cons_self;have hmap:∀ {l:List (List Int)},(∀x∈l,x∈R)→l.Pairwise (fun r s=> Rv.ld r < Rv.ld s∧nth r (Rv.ld s)=0)→(l.map (insF p own a)).Pairwise fun r s=> Rv.ld r < Rv.ld s∧nth r (Rv.ld s)=0:=fun {l} hl hp'=> by
   rw[List.pairwise_map];refine hp'.imp_of_mem fun hr hs q=>?_;rw[(insF_one hp hR n (hl _ hr)).2.1,(insF_one hp hR n (hl _ hs)).2.1];exact⟨q.1,insF_zero hp hR n (hl _ hr) (hl _ hs) q.2⟩
  unfold ins;split
  ·rename_i ha
   rw[←List.map_cons];refine List.pairwise_cons.2 ⟨fun x hx=>?_,hmap hm ho⟩;obtain⟨q,hq,rfl⟩:=List.mem_map.1 hx;rw[(insF_one hp hR n (hm q hq)).2.1,n.ld];refine⟨?_,n.zl q (hm q hq)⟩;rcases List.mem_cons.1 hq with rfl|hq
   ·exact ha
   ·have:=(o1 q hq).1; omega
  ·rename_i ha
   have hf:=insF_one hp hR n hoR;refine List.pairwise_cons.2 ⟨fun x hx=>?_,ins_ord hp hR n (fun q hq=> hm q (List.mem_cons_of_mem _ hq)) o2⟩;rw[hf.2.1];rcases mem_ins.1 hx with rfl|⟨q,hq,rfl⟩
   ·rw[n.ld]; exact⟨by have:=hf.2.2.2.2; omega,hf.2.2.2.1⟩
   ·have hqR:=hm q (List.mem_cons_of_mem _ hq)
    rw[(insF_one hp hR n hqR).2.1];exact⟨(o1 q hq).1,insF_zero hp hR n hoR hqR (o1 q hq).2⟩
theorem ins_red(hp:1 < p){R:List (List Int)}{own:List Int}{a:Nat}(hR:Red p w R)(n:New p w R own a):Red p w (ins p own a R):=by
 refine⟨fun x hx=>?_,fun x hx=>?_,ins_ord hp hR n (fun _ h=> h) hR.ord⟩
 ·rcases mem_ins.1 hx with rfl|⟨q,hq,rfl⟩
  ·exact n.ok
  ·exact(insF_one hp hR n hq).1
 ·rcases mem_ins.1 hx with rfl|⟨q,hq,rfl⟩
  ·rw[n.ld]; exact⟨n.lt,n.one⟩
  ·have h:=insF_one hp hR n hq
   rw[h.2.1]; exact⟨(hR.one q hq).1,h.2.2.1⟩
structure EchOf (p:Int) (w:Nat) (rows out:List (List Int)):Prop where
 red:Red p w out
 sp:∀v,Sp p w out v↔Sp p w rows v
theorem EchOf.nil(p:Int)(w:Nat):EchOf p w [] []:=⟨⟨fun r h=>(nomatch h),fun r h=>(nomatch h),.nil⟩,fun v=> Iff.rfl⟩
theorem EchOf.skip(hp:1 < p){rows out:List (List Int)}{row:List Int}(h:EchOf p w rows out)(hr:Rows p w rows)(hrow:VecOK p w row)(h0:∀j,j < w→nth (rest p out row) j=0):EchOf p w (rows++[row]) out:=by
 have hz:rest p out row=zv w:=(rest_ok (by omega) h.red.ok hrow).ext (zv_ok (by omega) w) fun j hj=> by rw[h0 j hj,nth_zv]; exact .refl _ _
 have hin:Sp p w out row:=(rest_iff (by omega) h.red.ok h.red.ok (fun r hr=> .mem (by omega) h.red.ok hr) hrow).1 (by rw[hz]; exact .zero);refine⟨h.red,fun v=>⟨fun hv=>((h.sp v).1 hv).mono fun r hr=> List.mem_append_left _ hr,fun hv=> hv.into (by omega) h.red.ok fun r hr'=>?_⟩⟩;rcases List.mem_append.1 hr' with q|q
 ·exact(h.sp r).2 (.mem (by omega) hr q)
 ·have:r=row:=by simpa using q
  rw[this]; exact hin
theorem EchOf.new(hp:1 < p){rows out:List (List Int)}{row:List Int}(h:EchOf p w rows out)(hrow:VecOK p w row){a:Nat}(ha:a < w)(hz:∀j,j < a→nth (rest p out row) j=0){k:Int}(hk:Cg p (nth (rest p out row) a*k) 1):
  New p w out (scl p (rest p out row) k) a:=by
 have hp0:0 < p:=by omega
 have hrest:=rest_ok hp0 h.red.ok hrow;have hown:=scl_ok hp0 hrest k;refine⟨hown,ha,fun j hj=>?_,?_,fun r hr'=>?_⟩
 ·have h1:=(nth_scl hp0 hrest k (show j < w by omega))
  rw[hz j hj]at h1;exact(h1.trans ⟨0,by grind⟩).eq (hown.rng _ (by omega)).1 (hown.rng _ (by omega)).2 (Int.le_refl _) hp0
 ·exact((nth_scl hp0 hrest k ha).trans hk).eq (hown.rng _ ha).1 (hown.rng _ ha).2 (by decide) hp
 ·have hl:=(h.red.one r hr').1
  have h1:=nth_scl hp0 hrest k hl;rw[rest_lead hp0 h.red hrow r hr']at h1;exact(h1.trans ⟨0,by grind⟩).eq (hown.rng _ hl).1 (hown.rng _ hl).2 (Int.le_refl _) hp0
theorem ins_len{own:List Int}{a:Nat}:∀ {out:List (List Int)},(ins p own a out).length=out.length+1
 | []=> rfl
 |o::out=> by
  unfold ins;split
  ·simp
  ·simp[ins_len (out:=out)]
theorem EchOf.put(hp:1 < p){rows out:List (List Int)}{row:List Int}(h:EchOf p w rows out)(hr:Rows p w rows)(hrow:VecOK p w row){a:Nat}(ha:a < w)(hz:∀j,j < a→nth (rest p out row) j=0){k:Int}(hk:Cg p (nth (rest p out row) a*k) 1):
  EchOf p w (rows++[row]) (ins p (scl p (rest p out row) k) a out):=by
 have hp0:0 < p:=by omega
 have hrest:=rest_ok hp0 h.red.ok hrow;have hown:=scl_ok hp0 hrest k;have n:New p w out (scl p (rest p out row) k) a:=h.new hp hrow ha hz hk;have hred:=ins_red hp h.red n;have hT:Rows p w (rows++[row]):=fun r hr'=> by
  rcases List.mem_append.1 hr' with q|q
  ·exact hr r q
  ·have:r=row:=by simpa using q
   rw[this]; exact hrow
 have hout:∀r∈out,Sp p w (rows++[row]) r:=fun r hr'=>((h.sp r).1 (.mem hp0 h.red.ok hr')).mono fun s hs=> List.mem_append_left _ hs;have hro:Sp p w (rows++[row]) (scl p (rest p out row) k):=by
  rw[scl_sub hp0 hrest];exact((rest_iff hp0 hT h.red.ok hout hrow).2 (.mem hp0 hT (List.mem_append_right _ List.mem_cons_self))).scale hp0 hT _
 have hown':Sp p w (ins p (scl p (rest p out row) k) a out) (scl p (rest p out row) k):= .mem hp0 hred.ok (mem_ins.2 (.inl rfl));have hback:∀r∈out,Sp p w (ins p (scl p (rest p out row) k) a out) r:=fun r hr'=> by
  have h1:Sp p w (ins p (scl p (rest p out row) k) a out) (insF p (scl p (rest p out row) k) a r):= .mem hp0 hred.ok (mem_ins.2 (.inr ⟨r,hr',rfl⟩));exact(sub_iff hp0 hred.ok (h.red.ok r hr') hown' _).1 h1
 refine⟨hred,fun v=>⟨fun hv=> hv.into hp0 hT fun r hr'=>?_,fun hv=> hv.into hp0 hred.ok fun r hr'=>?_⟩⟩
 ·rcases mem_ins.1 hr' with rfl|⟨o,ho,rfl⟩
  ·exact hro
  ·exact Sp.lin hp0 hT (hout o ho) hro _
 ·rcases List.mem_append.1 hr' with q|q
  ·exact((h.sp r).2 (.mem hp0 hr q)).into hp0 hred.ok hback
  ·have e:r=row:=by simpa using q
   rw[e];refine(rest_iff hp0 hred.ok h.red.ok hback hrow).1 ?_;have:=hown'.scale hp0 hred.ok (-(nth (rest p out row) a))
   rwa[scl_back hp0 hrest hk]at this
end
end Rv
namespace Rv
set_option linter.unusedVariables false
set_option linter.unusedSimpArgs false
def rowAt(l:List (List Int))(i:Nat):List Int:=l.getD i []
theorem rowAt_lt{l:List (List Int)}{i:Nat}(h:i < l.length):rowAt l i=l[i]:=by simp[rowAt,h]
theorem mem_row{l:List (List Int)}{r:List Int}:r∈l↔∃i,i < l.length∧rowAt l i=r:=by
 constructor
 ·intro h
  obtain⟨i,hi,rfl⟩:=List.getElem_of_mem h;exact⟨i,hi,rowAt_lt hi⟩
 ·rintro⟨i,hi,rfl⟩
  rw[rowAt_lt hi]; exact List.getElem_mem hi
theorem row_mem{l:List (List Int)}{i:Nat}(h:i < l.length):rowAt l i∈l:=mem_row.2 ⟨i,h,rfl⟩
section
variable {p:Int} {w:Nat}
structure GInv (p:Int) (w:Nat) (rows:List (List Int)) (c:Nat) (l:List (List Int)) (d:Nat):Prop where
 ok:Rows p w l
 sp:∀v,Sp p w l v↔Sp p w rows v
 dn:d≤l.length
 cw:c≤w
 lead:∀k,k < d→ld (rowAt l k) < c∧nth (rowAt l k) (ld (rowAt l k))=1
 up:∀k m,k < m→m < d→ld (rowAt l k) < ld (rowAt l m)
 z1:∀i k,i < l.length→k < d→i≠k→nth (rowAt l i) (ld (rowAt l k))=0
 z2:∀i j,d≤i→i < l.length→j < c→nth (rowAt l i) j=0
theorem GInv.start{rows:List (List Int)}(h:Rows p w rows):GInv p w rows 0 rows 0:=
 ⟨h,fun v=> Iff.rfl,Nat.zero_le _,Nat.zero_le _,fun k hk=> absurd hk (Nat.not_lt_zero _),fun k m _ hk=> absurd hk (Nat.not_lt_zero _),fun i k _ hk=> absurd hk (Nat.not_lt_zero _),fun i j _ _ hj=> absurd hj (Nat.not_lt_zero _)⟩
theorem GInv.skip{rows l:List (List Int)}{c d:Nat}(g:GInv p w rows c l d)(hc:c < w)(h:∀i,d≤i→i < l.length→nth (rowAt l i) c=0):GInv p w rows (c+1) l d:=
 ⟨g.ok,g.sp,g.dn,hc,fun k hk=>⟨Nat.lt_succ_of_lt (g.lead k hk).1,(g.lead k hk).2⟩,g.up,g.z1,fun i j h1 h2 h3=> by
  rcases Nat.lt_or_ge j c with q|q
  ·exact g.z2 i j h1 h2 q
  ·have:j=c:=by omega
   subst this; exact h i h1 h2⟩
theorem GInv.done{rows l:List (List Int)}{c d:Nat}(hp:1 < p)(g:GInv p w rows c l d)(h:c=w∨d=l.length):EchOf p w rows (l.take d):=by
 have hp0:0 < p:=by omega
 have hdl:=g.dn;have hm:∀r,r∈l.take d↔∃i,i < d∧rowAt l i=r:=fun r=> by
  rw[mem_row];have hl:(l.take d).length=d:=by simp; omega
  rw[hl];constructor
  ·rintro⟨i,h1,h2⟩
   refine⟨i,h1,?_⟩;rw[rowAt_lt (by omega)];rw[rowAt_lt (by omega),List.getElem_take]at h2; exact h2
  ·rintro⟨i,h1,h2⟩
   refine⟨i,h1,?_⟩;rw[rowAt_lt (by omega)]at h2;rw[rowAt_lt (by omega),List.getElem_take]; exact h2
 have hok:Rows p w (l.take d):=fun r hr=> g.ok r (List.mem_of_mem_take hr);refine⟨⟨hok,fun r hr=>?_,?_⟩,fun v=>(Iff.intro (fun hv=>?_) fun hv=>?_).trans (g.sp v)⟩
 ·obtain⟨i,hi,rfl⟩:=(hm r).1 hr
  have h1:=g.lead i hi;have h2:=g.cw;exact⟨by omega,h1.2⟩
 ·rw[List.pairwise_iff_getElem]
  intro i j h1 h2 hij;have e1:(l.take d)[i]=rowAt l i:=by rw[List.getElem_take,rowAt_lt]
  have e2:(l.take d)[j]=rowAt l j:=by rw[List.getElem_take,rowAt_lt]
  simp only[List.length_take]at h1 h2;rw[e1,e2];exact⟨g.up i j hij (by omega),g.z1 i j (by omega) (by omega) (by omega)⟩
 ·exact hv.mono fun r hr=> List.mem_of_mem_take hr
 ·refine hv.into hp0 hok fun r hr=>?_
  obtain⟨i,hi,rfl⟩:=mem_row.1 hr;rcases Nat.lt_or_ge i d with q|q
  ·exact .mem hp0 hok ((hm _).2 ⟨i,q,rfl⟩)
  ·rcases h with h|h
   ·have hz:rowAt l i=zv w:=(g.ok _ hr).ext (zv_ok hp0 w) fun j hj=> by rw[g.z2 i j q hi (by omega),nth_zv]; exact .refl _ _
    rw[hz]; exact .zero
   ·omega
def gstep(p:Int)(c d:Nat)(row:List Int)(l:List (List Int)):List (List Int):=(l.set d row).mapIdx fun i r=> if i=d then r else subv p r row (nth r c)
theorem gstep_len{c d:Nat}{row:List Int}{l:List (List Int)}:(gstep p c d row l).length=l.length:=by simp[gstep]
theorem gstep_at{c d:Nat}{row:List Int}{l:List (List Int)}(hd:d < l.length){i:Nat}(hi:i < l.length):rowAt (gstep p c d row l) i=if i=d then row else subv p (rowAt l i) row (nth (rowAt l i) c):=by
 rw[rowAt_lt (by rw[gstep_len]; exact hi),rowAt_lt hi];simp only[gstep,List.getElem_mapIdx];split
 ·rename_i e; subst e; simp
 ·rename_i e; rw[List.getElem_set_ne (Ne.symm e)]
theorem GInv.put{rows l l2:List (List Int)}{c d j:Nat}{k:Int}(hp:1 < p)(g:GInv p w rows c l d)(hc:c < w)(hj:d≤j)(hjl:j < l.length)(hk:Cg p (nth (rowAt l j) c*k) 1)
  (h2l:l2.length=l.length) (h2:∀i,i < l.length→rowAt l2 i=rowAt l (if i=j then d else if i=d then j else i)):GInv p w rows (c+1) (gstep p c d (scl p (rowAt l j) k) l2) (d+1):=by
 have hp0:0 < p:=by omega
 have hdl:d < l.length:=by omega
 have hrj:=g.ok _ (row_mem hjl);have hrow:=scl_ok hp0 hrj k;generalize hR:scl p (rowAt l j) k=row at*
 -- the new row
 have zr:∀m,m < c→nth row m=0:=fun m hm=> by
  have h1:=nth_scl hp0 hrj k (show m < w by omega);rw[hR,g.z2 j m hj hjl hm]at h1;exact(h1.trans ⟨0,by grind⟩).eq (hrow.rng _ (by omega)).1 (hrow.rng _ (by omega)).2 (Int.le_refl _) hp0
 have or:nth row c=1:=by
  have h1:=nth_scl hp0 hrj k hc;rw[hR]at h1;exact(h1.trans hk).eq (hrow.rng _ hc).1 (hrow.rng _ hc).2 (by decide) hp
 have lr:ld row=c:=ld_of zr (by rw[or]; decide);have hL:(gstep p c d row l2).length=l.length:=gstep_len.trans h2l;have ha:∀i,i < l.length→rowAt (gstep p c d row l2) i=if i=d then row else subv p (rowAt l2 i) row (nth (rowAt l2 i) c):=fun i hi=> gstep_at (by omega) (by omega)
 have ok2:∀i,i < l.length→VecOK p w (rowAt l2 i):=fun i hi=> by
  rw[h2 i hi];refine g.ok _ (row_mem ?_);split
  ·exact hdl
  ·split
   ·exact hjl
   ·exact hi
 have okn:Rows p w (gstep p c d row l2):=fun r hr=> by
  obtain⟨i,hi,rfl⟩:=mem_row.1 hr;rw[hL]at hi;rw[ha i hi];split
  ·exact hrow
  ·exact sub_ok hp0 (ok2 i hi).len hrow.len
 -- rows of before keep what they have before c
 have keep:∀i m,i < l.length→i≠d→m < c→nth (rowAt (gstep p c d row l2) i) m=nth (rowAt l2 i) m:=fun i m hi hid hm=> by
  have hr:=(ok2 i hi).rng m (by omega);rw[ha i hi,if_neg hid,nth_sub (ok2 i hi).len hrow.len (by omega),zr m hm];simp only[Int.mul_zero,Int.sub_zero];exact Int.emod_eq_of_lt hr.1 hr.2
 have zc:∀i,i < l.length→i≠d→nth (rowAt (gstep p c d row l2) i) c=0:=fun i hi hid=> by
  rw[ha i hi,if_neg hid,nth_sub (ok2 i hi).len hrow.len hc,or]; simp
 have lo:∀i,i < d→rowAt l2 i=rowAt l i:=fun i hi=> by rw[h2 i (by omega),if_neg (by omega),if_neg (by omega)]
 have ldk:∀i,i < d→ld (rowAt (gstep p c d row l2) i)=ld (rowAt l i)∧nth (rowAt (gstep p c d row l2) i) (ld (rowAt l i))=1:=fun i hi=> by
  have h1:=g.lead i hi;have e1:nth (rowAt (gstep p c d row l2) i) (ld (rowAt l i))=1:=by rw[keep i _ (by omega) (by omega) h1.1,lo i hi,h1.2]
  refine⟨ld_of (fun m hm=>?_) (by rw[e1]; decide),e1⟩;rw[keep i m (by omega) (by omega) (by omega),lo i hi,ld_zero hm]
 have rd:rowAt (gstep p c d row l2) d=row:=by rw[ha d hdl,if_pos rfl]
 -- the space
 have hspR:Sp p w l row:=by rw[←hR,scl_sub hp0 hrj]; exact(Sp.mem hp0 g.ok (row_mem hjl)).scale hp0 g.ok _
 have hspN:Sp p w (gstep p c d row l2) row:=by
  have:=row_mem (l:=gstep p c d row l2) (i:=d) (by omega);rw[rd]at this;exact .mem hp0 okn this
 have back:∀i,i < l.length→i≠d→Sp p w (gstep p c d row l2) (rowAt l2 i):=fun i hi hid=> by
  have:=row_mem (l:=gstep p c d row l2) (i:=i) (by omega);rw[ha i hi,if_neg hid]at this;exact(sub_iff hp0 okn (ok2 i hi) hspN _).1 (.mem hp0 okn this)
 have backj:Sp p w (gstep p c d row l2) (rowAt l j):=by
  have:=hspN.scale hp0 okn (-(nth (rowAt l j) c));rw[←hR,scl_back hp0 hrj hk]at this;rw[←hR]; exact this
 have hsw:∀i,i < l.length→∃m,m < l.length∧rowAt l2 m=rowAt l i:=fun i hi=> by
  by_cases e:i=j
  ·exact⟨d,hdl,by rw[h2 d hdl]; subst e; by_cases q:d=i <;> simp[q]⟩
  ·by_cases e2:i=d
   ·exact⟨j,hjl,by rw[h2 j hjl,if_pos rfl,e2]⟩
   ·exact⟨i,hi,by rw[h2 i hi,if_neg e,if_neg e2]⟩
 refine⟨okn,fun v=>(Iff.intro (fun hv=>?_) fun hv=>?_).trans (g.sp v),by omega,hc,fun k' hk'=>?_,fun k' m hkm hm=>?_,fun i k' hi hk' hne=>?_,fun i m h1 hi hm=>?_⟩
 ·refine hv.into hp0 g.ok fun r hr=>?_
  obtain⟨i,hi,rfl⟩:=mem_row.1 hr;rw[hL]at hi;rw[ha i hi];split
  ·exact hspR
  ·refine Sp.lin hp0 g.ok ?_ hspR _
   rw[h2 i hi];refine .mem hp0 g.ok (row_mem ?_);split
   ·exact hdl
   ·exact hi
 ·refine hv.into hp0 okn fun r hr=>?_
  obtain⟨i,hi,rfl⟩:=mem_row.1 hr;by_cases e:i=j
  ·subst e; exact backj
  ·by_cases e2:i=d
   ·subst e2
    have:=back j hjl (fun q=> e q.symm)
    rwa[h2 j hjl,if_pos rfl]at this
   ·have:=back i hi e2
    rwa[h2 i hi,if_neg e,if_neg e2]at this
 ·rcases Nat.lt_or_ge k' d with q|q
  ·have:=ldk k' q
   rw[this.1];exact⟨by have:=(g.lead k' q).1; omega,this.2⟩
  ·have:k'=d:=by omega
   subst this;rw[rd,lr]; exact⟨Nat.lt_succ_self _,or⟩
 ·rcases Nat.lt_or_ge m d with q|q
  ·rw[(ldk k' (by omega)).1,(ldk m q).1]; exact g.up k' m hkm q
  ·have:m=d:=by omega
   subst this;rw[(ldk k' hkm).1,rd,lr]; exact(g.lead k' hkm).1
 ·rw[hL]at hi
  rcases Nat.lt_or_ge k' d with q|q
  ·rw[(ldk k' q).1]
   have hlc:=(g.lead k' q).1;by_cases e:i=d
   ·subst e; rw[rd]; exact zr _ hlc
   ·rw[keep i _ hi e hlc,h2 i hi]
    split
    ·exact g.z1 d k' hdl q (by omega)
    ·exact g.z1 i k' hi q hne
  ·have:k'=d:=by omega
   subst this;rw[rd,lr]; exact zc i hi hne
 ·rw[hL]at hi
  rcases Nat.lt_or_ge m c with q|q
  ·rw[keep i m hi (by omega) q,h2 i hi]
   split
   ·exact g.z2 d m (Nat.le_refl _) hdl q
   ·split
    ·omega
    ·exact g.z2 i m (by omega) hi q
  ·have:m=c:=by omega
   subst this;exact zc i hi (by omega)
end
theorem EchOf.same{p:Int}{w:Nat}(hp:1 < p){rows a b:List (List Int)}(ha:EchOf p w rows a)(hb:EchOf p w rows b):a=b:=
 ha.red.unique (by omega) hb.red fun v=>(ha.sp v).trans (hb.sp v).symm
end Rv
namespace Rv
set_option linter.unusedVariables false
set_option linter.unusedSimpArgs false
def unitv(n i:Nat):List Int:=(zv n).set i 1
theorem unitv_len(n i:Nat):(unitv n i).length=n:=by simp[unitv,zv]
theorem nth_unit{n i j:Nat}(hi:i < n):nth (unitv n i) j=if j=i then 1 else 0:=by
 rcases Nat.lt_or_ge j n with hj|hj
 ·rw[nth_lt (by rw[unitv_len]; exact hj)]
  unfold unitv;rw[List.getElem_set];by_cases e:i=j
  ·subst e; rw[if_pos rfl,if_pos rfl]
  ·rw[if_neg e,if_neg (Ne.symm e)]; simp[zv]
 ·rw[nth_out (by rw[unitv_len]; exact hj),if_neg (by omega)]
def units(n:Nat):List (List Int):=(List.range n).map (unitv n)
theorem units_len(n:Nat):(units n).length=n:=by simp[units]
section
variable {p:Int}
theorem unitv_ok(hp:1 < p){n i:Nat}(hi:i < n):VecOK p n (unitv n i):=⟨unitv_len n i,fun j _=> by rw[nth_unit hi]; split <;> omega⟩
theorem ld_unit{n i:Nat}(hi:i < n):ld (unitv n i)=i:=ld_of (fun j hj=> by rw[nth_unit hi,if_neg (by omega)]) (by rw[nth_unit hi,if_pos rfl]; decide)
theorem units_red(hp:1 < p)(n:Nat):Red p n (units n):=by
 have hm:∀r,r∈units n→∃i,i < n∧r=unitv n i:=fun r hr=> by
  obtain⟨i,hi,rfl⟩:=List.mem_map.1 hr;exact⟨i,List.mem_range.1 hi,rfl⟩
 refine⟨fun r hr=>?_,fun r hr=>?_,?_⟩
 ·obtain⟨i,hi,rfl⟩:=hm r hr; exact unitv_ok hp hi
 ·obtain⟨i,hi,rfl⟩:=hm r hr
  rw[ld_unit hi,nth_unit hi,if_pos rfl]; exact⟨hi,rfl⟩
 ·rw[List.pairwise_iff_getElem]
  intro i j h1 h2 hij;rw[units_len]at h1 h2;have e1:(units n)[i]'(by rw[units_len]; exact h1)=unitv n i:=by simp[units]
  have e2:(units n)[j]'(by rw[units_len]; exact h2)=unitv n j:=by simp[units]
  rw[e1,e2,ld_unit h1,ld_unit h2,nth_unit h1,if_neg (by omega)];exact⟨hij,rfl⟩
theorem nth_drop(r:List Int)(w j:Nat):nth (r.drop w) j=nth r (w+j):=by simp[nth]
theorem nth_app{r s:List Int}{j:Nat}:nth (r++s) j=if j < r.length then nth r j else nth s (j - r.length):=by
 unfold nth;rw[List.getD_eq_getElem?_getD,List.getD_eq_getElem?_getD,List.getD_eq_getElem?_getD];split
 ·rename_i h; rw[List.getElem?_append_left h]
 ·rename_i h; rw[List.getElem?_append_right (Nat.le_of_not_lt h)]
def tails(w:Nat)(E:List (List Int)):List (List Int):=(E.filter fun r=> decide (w≤ld r)).map (List.drop w)
theorem ld_drop{r:List Int}{w:Nat}(h:w≤ld r)(hl:ld r < r.length):ld (r.drop w)=ld r - w:=ld_of (fun j hj=> by rw[nth_drop]; exact ld_zero (by omega)) (by rw[nth_drop,show w+(ld r - w)=ld r by omega]; exact ld_ne hl)
theorem tails_red{w n:Nat}{E:List (List Int)}(h:Red p (w+n) E):Red p n (tails w E):=by
 have hm:∀x,x∈tails w E→∃r∈E,w≤ld r∧x=r.drop w:=fun x hx=> by
  obtain⟨r,hr,rfl⟩:=List.mem_map.1 hx;obtain⟨h1,h2⟩:=List.mem_filter.1 hr;exact⟨r,h1,by simpa using h2,rfl⟩
 refine⟨fun x hx=>?_,fun x hx=>?_,?_⟩
 ·obtain⟨r,hr,h1,rfl⟩:=hm x hx
  have hk:=h.ok r hr;exact⟨by rw[List.length_drop,hk.len]; omega,fun j hj=> by rw[nth_drop]; exact hk.rng _ (by omega)⟩
 ·obtain⟨r,hr,h1,rfl⟩:=hm x hx
  have hk:=h.ok r hr;have ho:=h.one r hr;rw[ld_drop h1 (by rw[hk.len]; exact ho.1),nth_drop,show w+(ld r - w)=ld r by omega];exact⟨by omega,ho.2⟩
 ·unfold tails
  rw[List.pairwise_map];refine(h.ord.sublist List.filter_sublist).imp_of_mem fun hr hs q=>?_;rename_i r s;obtain⟨r1,r2⟩:=List.mem_filter.1 hr;obtain⟨s1,s2⟩:=List.mem_filter.1 hs;have r2':w≤ld r:=by simpa using r2
  have s2':w≤ld s:=by simpa using s2
  rw[ld_drop r2' (by rw[(h.ok r r1).len]; exact(h.one r r1).1),ld_drop s2' (by rw[(h.ok s s1).len]; exact(h.one s s1).1),nth_drop,show w+(ld s - w)=ld s by omega];exact⟨by omega,q.2⟩
theorem EchOf.self{w:Nat}{E:List (List Int)}(h:Red p w E):EchOf p w E E:=⟨h,fun v=> Iff.rfl⟩
def longs(n:Nat)(rows:List (List Int)):List (List Int):=(List.range n).map fun i=> rowAt rows i++unitv n i
theorem longs_len(n:Nat)(rows:List (List Int)):(longs n rows).length=n:=by simp[longs]
theorem longs_at{n:Nat}{rows:List (List Int)}{i:Nat}(h:i < (longs n rows).length):(longs n rows)[i]=rowAt rows i++unitv n i:=by simp[longs]
theorem longs_ok(hp:1 < p){w:Nat}{rows:List (List Int)}(h:Rows p w rows):Rows p (w+rows.length) (longs rows.length rows):=fun x hx=> by
 obtain⟨i,hi,rfl⟩:=List.mem_map.1 hx;have hi':=List.mem_range.1 hi;have hr:=h _ (row_mem hi');have hu:=unitv_ok hp hi';refine⟨by rw[List.length_append,hr.len,hu.len],fun j hj=>?_⟩;rw[nth_app,hr.len];split
 ·rename_i q; exact hr.rng j q
 ·exact hu.rng _ (by omega)
end
end Rv
namespace Rv
set_option linter.unusedVariables false
set_option linter.unusedSimpArgs false
section
variable {p:Int} {w w':Nat}
structure Lin (p:Int) (w w':Nat) (φ:List Int→List Int):Prop where
 ok:∀u,VecOK p w u→VecOK p w' (φ u)
 sub:∀u v k,VecOK p w u→VecOK p w v→φ (subv p u v k)=subv p (φ u) (φ v) k
theorem sub_zv(hp:0 < p){w:Nat}:subv p (zv w) (zv w) 1=zv w:=
 (sub_ok hp (zv_ok hp w).len (zv_ok hp w).len).ext (zv_ok hp w) fun j hj=>(sub_cg (zv_ok hp w).len (zv_ok hp w).len hj).trans (by rw[nth_zv]; exact⟨0,by simp⟩)
theorem sub_self(hp:0 < p){w:Nat}{v:List Int}(hv:VecOK p w v):subv p v v 1=zv w:=
 (sub_ok hp hv.len hv.len).ext (zv_ok hp w) fun j hj=>(sub_cg hv.len hv.len hj).trans (by rw[nth_zv]; exact⟨0,by grind⟩)
theorem Lin.zero(hp:0 < p){φ:List Int→List Int}(h:Lin p w w' φ):φ (zv w)=zv w':=by
 have h0:=zv_ok hp w;have:=h.sub (zv w) (zv w) 1 h0 h0;rw[sub_zv hp,sub_self hp (h.ok _ h0)]at this;exact this
theorem Lin.rows{φ:List Int→List Int}(h:Lin p w w' φ){R:List (List Int)}(hR:Rows p w R):Rows p w' (R.map φ):=fun r hr=> by
 obtain⟨s,hs,rfl⟩:=List.mem_map.1 hr;exact h.ok s (hR s hs)
theorem Lin.sp(hp:0 < p){φ:List Int→List Int}(h:Lin p w w' φ){R:List (List Int)}(hR:Rows p w R){v:List Int}(hv:Sp p w R v):Sp p w' (R.map φ) (φ v):=by
 induction hv with
 |zero=> rw[h.zero hp]; exact .zero
 | @sub v r k hv hr ih=>
  rw[h.sub v r k (hv.ok hp hR) (hR r hr)];exact .sub k ih (List.mem_map_of_mem hr)
theorem rest_lin(hp:0 < p):∀ {R:List (List Int)} (hR:Rows p w R) (hl:∀r∈R,ld r < w),Lin p w w (rest p R)
 | [],_,_=>⟨fun u h=> h,fun u v k _ _=> rfl⟩
 |r::R,hR,hl=> by
  have hr:=hR r List.mem_cons_self;have hlr:=hl r List.mem_cons_self;have ih:=rest_lin hp (R:=R) (fun s hs=> hR s (List.mem_cons_of_mem _ hs)) (fun s hs=> hl s (List.mem_cons_of_mem _ hs));refine⟨fun u hu=> rest_ok hp hR hu,fun u v k hu hv=>?_⟩;have h1:=sub_ok hp hu.len hr.len (k:=nth u (ld r));have h2:=sub_ok hp hv.len hr.len (k:=nth v (ld r));have h3:=sub_ok hp hu.len hv.len (k:=k);have e:subv p (subv p u v k) r (nth (subv p u v k) (ld r))=subv p (subv p u r (nth u (ld r))) (subv p v r (nth v (ld r))) k:=by
   refine(sub_ok hp h3.len hr.len).ext (sub_ok hp h1.len h2.len) fun j hj=>?_;have c:=sub_cg (p:=p) hu.len hv.len (k:=k) hlr;refine(sub_cg h3.len hr.len hj).trans (Cg.trans (.sub (sub_cg hu.len hv.len hj) (.mul c (.refl _ _))) (Cg.symm ((sub_cg h1.len h2.len hj).trans (Cg.trans (.sub (sub_cg hu.len hr.len hj) (.mul (.refl _ _) (sub_cg hv.len hr.len hj))) ⟨0,by grind⟩))))
  show rest p R (subv p (subv p u v k) r (nth (subv p u v k) (ld r)))=subv p (rest p R (subv p u r (nth u (ld r)))) (rest p R (subv p v r (nth v (ld r)))) k;rw[e,ih.sub _ _ _ h1 h2]
theorem rest_zero(hp:0 < p){R:List (List Int)}(hR:Red p w R){v:List Int}(hv:VecOK p w v):rest p R v=zv w↔Sp p w R v:=by
 have hb:=rest_iff hp hR.ok hR.ok (fun r hr=> .mem hp hR.ok hr) hv;constructor
 ·intro e
  exact hb.1 (by rw[e]; exact .zero)
 ·intro h
  have h1:=hb.2 h;have h2:=rest_ok hp hR.ok hv;refine h2.ext (zv_ok hp w) fun j hj=>?_;have h3:=hR.coord hp h1 j hj;rw[comb_zero fun r hr=> .inl (rest_lead hp hR hv r hr)]at h3;rw[nth_zv]; exact h3
def leadsOf(T:List (List Int))(u:List Int):List Int:=T.map fun t=> nth u (ld t)
theorem Lin.comp{w'':Nat}{φ ψ:List Int→List Int}(h:Lin p w w' φ)(k:Lin p w' w'' ψ):Lin p w w'' fun u=> ψ (φ u):=
 ⟨fun u hu=> k.ok _ (h.ok u hu),fun u v c hu hv=> by show ψ (φ (subv p u v c))=subv p (ψ (φ u)) (ψ (φ v)) c; rw[h.sub u v c hu hv,k.sub _ _ _ (h.ok u hu) (h.ok v hv)]⟩
def sumI(f:Nat→Int):Nat→Int
 |0=> 0
 |n+1=> sumI f n+f n
theorem sumI_cg{f g:Nat→Int}:∀ {n:Nat},(∀i,i < n→Cg p (f i) (g i))→Cg p (sumI f n) (sumI g n)
 |0,_=> .refl _ _
 |n+1,h=> .add (sumI_cg fun i hi=> h i (by omega)) (h n (by omega))
theorem sumI_congr{f g:Nat→Int}{n:Nat}(h:∀i,i < n→f i=g i):sumI f n=sumI g n:=by
 induction n with
 |zero=> rfl
 |succ n ih=> unfold sumI; rw[ih fun i hi=> h i (by omega),h n (by omega)]
theorem sumI_zero{f:Nat→Int}{n:Nat}(h:∀i,i < n→f i=0):sumI f n=0:=by
 induction n with
 |zero=> rfl
 |succ n ih=> unfold sumI; rw[ih fun i hi=> h i (by omega),h n (by omega)]; rfl
theorem sumI_lin{f g:Nat→Int}{k:Int}:∀ {n:Nat},sumI (fun i=> f i - k*g i) n=sumI f n - k*sumI g n
 |0=> by simp[sumI]
 |n+1=> by unfold sumI; rw[sumI_lin (n:=n)]; grind
def dot(f:Nat→Int)(m:List (List Int))(n j:Nat):Int:=sumI (fun i=> f i*nth (rowAt m i) j) n
theorem dot_cg{f g:Nat→Int}{m:List (List Int)}{n j:Nat}(h:∀i,i < n→Cg p (f i) (g i)):Cg p (dot f m n j) (dot g m n j):=sumI_cg fun i hi=> .mul (h i hi) (.refl _ _)
theorem dot_lin{f g:Nat→Int}{k:Int}{m:List (List Int)}{n j:Nat}:dot (fun i=> f i - k*g i) m n j=dot f m n j - k*dot g m n j:=by
 unfold dot;rw[←sumI_lin];exact sumI_congr fun i _=> by grind
theorem dot_zero{f:Nat→Int}{m:List (List Int)}{n j:Nat}(h:∀i,i < n→f i=0):dot f m n j=0:=sumI_zero fun i hi=> by rw[h i hi]; simp
theorem dot_unit{a:Nat}{m:List (List Int)}{j:Nat}:∀ {n:Nat},a < n→dot (fun i=> if i=a then 1 else 0) m n j=nth (rowAt m a) j
 |n+1,h=> by
  unfold dot sumI;by_cases q:a=n
  ·subst q
   rw[sumI_zero fun i hi=> by simp only; rw[if_neg (by omega)]; simp];simp
  ·have:=dot_unit (m:=m) (j:=j) (n:=n) (a:=a) (by omega)
   unfold dot at this;rw[this];simp only;rw[if_neg (by omega)]; simp
structure Graph (p:Int) (w n:Nat) (rows:List (List Int)) (u:List Int):Prop where
 ok:VecOK p (w+n) u
 at_:∀j,j < w→Cg p (nth u j) (dot (fun i=> nth u (w+i)) rows n j)
theorem Graph.sub(hp:0 < p){n:Nat}{rows:List (List Int)}{u v:List Int}(hu:Graph p w n rows u)(hv:Graph p w n rows v)(k:Int):Graph p w n rows (subv p u v k):=by
 refine⟨sub_ok hp hu.ok.len hv.ok.len,fun j hj=>?_⟩;refine(sub_cg hu.ok.len hv.ok.len (by omega)).trans (Cg.trans (.sub (hu.at_ j hj) (.mul (.refl _ _) (hv.at_ j hj))) ?_);rw[←dot_lin];exact dot_cg fun i hi=>(sub_cg hu.ok.len hv.ok.len (by omega)).symm
theorem Graph.zero(hp:0 < p){n:Nat}{rows:List (List Int)}:Graph p w n rows (zv (w+n)):=
 ⟨zv_ok hp _,fun j hj=> by rw[nth_zv,dot_zero fun i _=> nth_zv _ _]; exact .refl _ _⟩
theorem long_ok(hp:1 < p){rows:List (List Int)}(h:Rows p w rows){i:Nat}(hi:i < rows.length):VecOK p (w+rows.length) (rowAt rows i++unitv rows.length i)∧(∀j,j < w→nth (rowAt rows i++unitv rows.length i) j=nth (rowAt rows i) j)∧∀j,nth (rowAt rows i++unitv rows.length i) (w+j)=if j=i then 1 else 0:=by
 have hr:=h _ (row_mem hi);have hm:rowAt rows i++unitv rows.length i∈longs rows.length rows:=List.mem_map.2 ⟨i,List.mem_range.2 hi,rfl⟩;refine⟨longs_ok hp h _ hm,fun j hj=> by rw[nth_app,hr.len,if_pos hj],fun j=>?_⟩;rw[nth_app,hr.len,if_neg (by omega),show w+j - w=j by omega,nth_unit hi]
theorem VecOK.drop{n:Nat}{u:List Int}(hu:VecOK p (w+n) u):VecOK p n (u.drop w):=⟨by rw[List.length_drop,hu.len]; omega,fun j hj=> by rw[nth_drop]; exact hu.rng _ (by omega)⟩
end
end Rv
namespace Rv
set_option linter.unusedVariables false
set_option linter.unusedSimpArgs false
section
variable {p:Int} {w:Nat}
theorem Sp.split(hp:0 < p){A B:List (List Int)}(hA:Rows p w A)(hB:Rows p w B){v:List Int}(hv:Sp p w (A++B) v):∃a b,Sp p w A a∧Sp p w B b∧v=subv p a b (-1):=by
 have hz:=zv_ok hp w;induction hv with
 |zero=> exact⟨_,_,.zero,.zero,(hz.ext (sub_ok hp hz.len hz.len) fun j hj=>((sub_cg hz.len hz.len hj).trans (by rw[nth_zv]; exact⟨0,by simp⟩)).symm)⟩
 | @sub v r k hv hr ih=>
  obtain⟨a,b,ha,hb,rfl⟩:=ih;have ao:=ha.ok hp hA;have bo:=hb.ok hp hB;have so:=sub_ok hp ao.len bo.len (k:= -1);rcases List.mem_append.1 hr with q|q
  ·have ro:=hA r q
   have aro:=sub_ok hp ao.len ro.len (k:=k);refine⟨_,b,.sub k ha q,hb,(sub_ok hp so.len ro.len).ext (sub_ok hp aro.len bo.len) fun j hj=>?_⟩;refine(sub_cg so.len ro.len hj).trans (Cg.trans (.sub (sub_cg ao.len bo.len hj) (.refl _ _)) (Cg.symm ((sub_cg aro.len bo.len hj).trans (Cg.trans (.sub (sub_cg ao.len ro.len hj) (.refl _ _)) ⟨0,by grind⟩))))
  ·have ro:=hB r q
   have bro:=sub_ok hp bo.len ro.len (k:=k);refine⟨a,_,ha,.sub k hb q,(sub_ok hp so.len ro.len).ext (sub_ok hp ao.len bro.len) fun j hj=>?_⟩;refine(sub_cg so.len ro.len hj).trans (Cg.trans (.sub (sub_cg ao.len bo.len hj) (.refl _ _)) (Cg.symm ((sub_cg ao.len bro.len hj).trans (Cg.trans (.sub (.refl _ _) (.mul (.refl _ _) (sub_cg bo.len ro.len hj))) ⟨0,by grind⟩))))
theorem rest_self(hp:0 < p):∀ {R:List (List Int)} (hR:Rows p w R) {v:List Int} (hv:VecOK p w v),(∀r∈R,nth v (ld r)=0)→rest p R v=v
 | [],_,_,_,_=> rfl
 |r::R,hR,v,hv,h=> by
  show rest p R (subv p v r (nth v (ld r)))=v;rw[h r List.mem_cons_self,sub_zero hp hv (hR r List.mem_cons_self).len];exact rest_self hp (fun s hs=> hR s (List.mem_cons_of_mem _ hs)) hv fun s hs=> h s (List.mem_cons_of_mem _ hs)
theorem rest_comb(hp:0 < p){R:List (List Int)}(hR:Red p w R){v:List Int}(hv:VecOK p w v){j:Nat}(hj:j < w):Cg p (nth (rest p R v) j) (nth v j - comb R v j):=by
 have ho:=rest_ok hp hR.ok hv;have hu:=sub_ok hp hv.len ho.len (k:=1);have hz:=rest_lead hp hR hv;have e:rest p R (subv p v (rest p R v) 1)=zv w:=by
  rw[(rest_lin hp hR.ok fun r hr=>(hR.one r hr).1).sub _ _ _ hv ho,rest_self hp hR.ok ho hz];exact sub_self hp ho
 have h1:=hR.coord hp ((rest_zero hp hR hu).1 e) j hj;have h2:=sub_cg (p:=p) hv.len ho.len (k:=1) hj;have h3:=comb_lin (p:=p) (k:=1) hv.len ho.len (j:=j) (R:=R) fun r hr=>(hR.one r hr).1;have h4:comb R (rest p R v) j=0:=comb_zero fun r hr=> .inl (hz r hr);rw[h4]at h3;obtain⟨a,ha⟩:=h1;obtain⟨b,hb⟩:=h2;obtain⟨c,hc⟩:=h3;exact⟨b - c - a,by grind⟩
end
end Rv
namespace Rv
set_option linter.unusedVariables false
set_option linter.unusedSimpArgs false
set_option maxRecDepth 10000
theorem forI_inv{σ τ:Type}{B:Int→σ→Option (σ⊕τ)}{D:Int→σ→Option τ}(Inv:Nat→σ→Prop)(Q:τ→Prop)(n:Nat):
  ∀ (k i:Nat) (s:σ),i+k=n→Inv i s→(∀i s,i < n→Inv i s→(∃s',B i s=some (.inl s')∧Inv (i+1) s')∨∃t,B i s=some (.inr t)∧Q t)→(∀s,Inv n s→∃t,D n s=some t∧Q t)→∃t,forI B D k i s=some t∧Q t:=by
 intro k;induction k with
 |zero=>
  intro i s hk hI hb hd;have:i=n:=by omega
  subst this;exact hd s hI
 |succ k ih=>
  intro i s hk hI hb hd;simp only[forI];rcases hb i s (by omega) hI with⟨s',h1,h2⟩|⟨t,h1,h2⟩
  ·rw[h1]
   have:=ih (i+1) s' (by omega) h2 hb hd;simpa using this
  ·rw[h1]; exact⟨t,rfl,h2⟩
theorem forR_inv{σ τ:Type}{B:Int→σ→Option (σ⊕τ)}{D:Int→σ→Option τ}{hi:Int}(n:Nat)(hn:hi=n)(hs:n < 4611686018427387904)(Inv:Nat→σ→Prop)(Q:τ→Prop){s:σ}(h0:Inv 0 s)
  (hb:∀ (i:Nat) s,i < n→Inv i s→(∃s',B i s=some (.inl s')∧Inv (i+1) s')∨∃t,B i s=some (.inr t)∧Q t) (hd:∀s,Inv n s→∃t,D n s=some t∧Q t):∃t,forR 0 hi B D s=some t∧Q t:=by
 subst hn;unfold forR;rw[if_pos (by omega)];have e:((n:Int) - 0).toNat=n:=by omega
 rw[e];exact forI_inv Inv Q n n 0 s (by omega) h0 hb hd
theorem forR_from{σ τ:Type}{B:Int→σ→Option (σ⊕τ)}{D:Int→σ→Option τ}{lo hi:Int}(l n:Nat)(hl:lo=l)(hn:hi=n)(hln:l≤n)(hs:n < 4611686018427387904)(Inv:Nat→σ→Prop)(Q:τ→Prop){s:σ}(h0:Inv l s)
  (hb:∀ (i:Nat) s,i < n→Inv i s→(∃s',B i s=some (.inl s')∧Inv (i+1) s')∨∃t,B i s=some (.inr t)∧Q t) (hd:∀s,Inv n s→∃t,D n s=some t∧Q t):∃t,forR lo hi B D s=some t∧Q t:=by
 subst hn; subst hl;unfold forR;rw[if_pos (by omega)];have e:((n:Int) - (l:Int)).toNat=n - l:=by omega
 rw[e];exact forI_inv Inv Q n (n - l) l s (by omega) h0 hb hd
theorem loopW_inv{σ τ:Type}{S:σ→Option (σ⊕τ)}(μ:σ→Nat)(Inv:σ→Prop)(Q:τ→Prop){s:σ}(h0:Inv s)
  (hb:∀s,Inv s→(∃s',S s=some (.inl s')∧Inv s'∧μ s' < μ s)∨∃t,S s=some (.inr t)∧Q t):∃t,loopW S s=some t∧Q t:=by
 suffices∀k s,μ s≤k→Inv s→∃t,loopW S s=some t∧Q t from this _ s (Nat.le_refl _) h0
 intro k;induction k with
 |zero=>
  intro s hk hI;rcases hb s hI with⟨s',h1,h2,h3⟩|⟨t,h1,h2⟩
  ·omega
  ·exact⟨t,loopW_eq.2 (.inr h1),h2⟩
 |succ k ih=>
  intro s hk hI;rcases hb s hI with⟨s',h1,h2,h3⟩|⟨t,h1,h2⟩
  ·obtain⟨t,h4,h5⟩:=ih s' (by omega) h2
   exact⟨t,loopW_eq.2 (.inl ⟨s',h1,h4⟩),h5⟩
  ·exact⟨t,loopW_eq.2 (.inr h1),h2⟩
theorem getI_nat{α:Type}{l:List α}{i:Nat}(h:i < l.length):getI l (i:Int)=some l[i]:=by
 unfold getI;rw[if_pos (by omega)];simp[h]
theorem getI_getD{α:Type}{l:List α}{i:Nat}(h:i < l.length)(d:α):getI l (i:Int)=some (l.getD i d):=by
 rw[getI_nat h]; simp[h]
theorem chk_ok{n:Int}(h0: -9223372036854775808≤n)(h1:n < 9223372036854775808):chk n=some n:=by
 unfold chk; rw[if_pos ⟨h0,h1⟩]
theorem setI_nat{α:Type}{l:List α}{i:Nat}(h:i < l.length)(y:α):setI l (i:Int) y=some (l.set i y):=by
 unfold setI;rw[if_pos (by omega),Int.toNat_natCast]
theorem remI_ok{a b:Int}(h:b≠0):remI a b=some (a.tmod b):=by unfold remI; rw[if_neg h]
theorem mkL_ok{α:Type}{b:Nat}{n:Int}{z:α}(k:Nat)(hn:n=k)(h:k*b≤1099511627776)(h2:k≤1099511627776):mkL b n z=some (List.replicate k z):=by
 subst hn;unfold mkL;rw[if_pos ⟨by omega,by omega,by omega⟩,Int.toNat_natCast]
theorem app_ok{α:Type}{b:Nat}{l l':List α}(h:(l.length+l'.length)*b≤1099511627776)(h2:l.length+l'.length≤1099511627776):app b l l'=some (l++l'):=by
 unfold app; rw[if_pos ⟨h,h2⟩]
def Tells(o:Option Bool)(P:Prop):Prop:=∃b,o=some b∧(b=true↔P)
theorem Tells.of_true{o:Option Bool}{P:Prop}(h:o=some true)(p:P):Tells o P:=⟨true,h,by simp[p]⟩
theorem Tells.of_false{o:Option Bool}{P:Prop}(h:o=some false)(p:¬P):Tells o P:=⟨false,h,by simp[p]⟩
theorem Tells.iff{o:Option Bool}{P Q:Prop}(h:Tells o P)(e:P↔Q):Tells o Q:=by
 obtain⟨b,h1,h2⟩:=h; exact⟨b,h1,h2.trans e⟩
theorem Tells.same{o o':Option Bool}{P:Prop}(h:Tells o P)(h':Tells o' P):∃b,o=some b∧o'=some b∧(b=true↔P):=by
 obtain⟨b,h1,h2⟩:=h;obtain⟨b',h3,h4⟩:=h';have:b=b':=by rw[Bool.eq_iff_iff]; exact h2.trans h4.symm
 exact⟨b,h1,by rw[this]; exact h3,h2⟩
theorem Tells.case{o:Option Bool}{P:Prop}(h:Tells o P):(o=some true∧P)∨(o=some false∧¬P):=by
 obtain⟨b,h1,h2⟩:=h;cases b with
 |true=> exact .inl ⟨h1,h2.1 rfl⟩
 |false=> exact .inr ⟨h1,fun p=> by have:=h2.2 p; cases this⟩
def IsP(p:Int):Prop:=p=2∨p=3∨p=5∨p=7
theorem IsP.range{p:Int}(h:IsP p):2≤p∧p≤7:=by unfold IsP at h; omega
def RowOK(p w:Int)(row:List Int):Prop:=(row.length:Int)=w∧∀x∈row,0≤x∧x < p
def TableOK(p c w:Int)(m:List (List Int)):Prop:=(m.length:Int)=c∧∀row∈m,RowOK p w row
theorem F54_eq(n lo hi:Int):F54 n lo hi=some (decide (lo≤n∧n≤hi)):=by
 unfold F54; by_cases h:lo≤n <;> simp[h]
theorem F56_eq(n lo hi:Int):F56 n lo hi=some (decide (lo≤n∧n≤hi)):=by
 unfold F56; by_cases h:lo≤n <;> simp[h]
theorem F78_tells(p:Int):Tells (F78 p) (IsP p):=by
 unfold F78 IsP;split
 ·exact .of_true rfl (by omega)
 split
 ·exact .of_true rfl (by omega)
 split
 ·exact .of_true rfl (by omega)
 ·exact⟨_,rfl,by simp; omega⟩
theorem F67_tells(p:Int):Tells (F67 p) (IsP p):=by
 unfold F67 IsP;split
 ·exact .of_true rfl (by omega)
 split
 ·exact .of_true rfl (by omega)
 split
 ·exact .of_true rfl (by omega)
 ·exact⟨_,rfl,by simp; omega⟩
theorem F79_2{p w:Int}{m:List (List Int)}(hp:2≤p∧p≤7){i:Nat}(hi:i < m.length)(hs:m[i].length≤1099511627776):
  ∃t,loopW (F79_2_S p m w i) 0=some t∧((t= .inl ()∧∀x∈m[i],0≤x∧x < p)∨(t= .inr false∧¬∀x∈m[i],0≤x∧x < p)):=by
 refine loopW_inv (fun j:Int=>(m[i].length - j).toNat) (fun j=>∃n:Nat,j=n∧n≤m[i].length∧∀k (hk:k < n) (h2:k < m[i].length),0≤m[i][k]∧m[i][k] < p) _ ⟨0,rfl,by omega,fun k hk=> by omega⟩ ?_;rintro _ ⟨n,rfl,hn,hall⟩;unfold F79_2_S;simp only[getI_nat hi,ob];by_cases hlt:(n:Int) < m[i].length
 ·have hnl:n < m[i].length:=by omega
  simp only[if_pos hlt,getI_nat hnl,ob,chk_ok (show(-9223372036854775808:Int)≤p - 1 by omega) (show p - 1 < 9223372036854775808 by omega),F54_eq];by_cases hx:0≤m[i][n]∧m[i][n]≤p - 1
  ·left
   refine⟨n+1,?_,⟨n+1,rfl,hnl,fun k hk h2=>?_⟩,by omega⟩
   ·simp only[hx,and_self,decide_true,if_true,chk_ok (show(-9223372036854775808:Int)≤(n:Int)+1 by omega) (show(n:Int)+1 < 9223372036854775808 by omega),ob]
   ·by_cases e:k=n
    ·subst e; omega
    ·exact hall k (by omega) h2
  ·right
   refine⟨.inr false,?_,.inr ⟨rfl,fun ha=> hx ?_⟩⟩
   ·simp[hx]
   ·have:=ha _ (List.getElem_mem hnl); omega
 ·right
  refine⟨.inl (),by simp only[if_neg hlt],.inl ⟨rfl,fun x hx=>?_⟩⟩;obtain⟨k,hk,rfl⟩:=List.getElem_of_mem hx;exact hall k (by omega) hk
theorem F79_tells{p c w:Int}{m:List (List Int)}(hp:2≤p∧p≤7)(hm:m.length≤1099511627776)(hs:∀r∈m,r.length≤1099511627776):Tells (F79 p m c w) (TableOK p c w m):=by
 unfold F79;by_cases hc:(m.length:Int)=c
 case neg=> rw[if_neg hc]; exact .of_false rfl fun h=> hc h.1
 rw[if_pos hc];obtain⟨t,h1,h2⟩:=forR_inv (B:=F79_1_B p m w) (D:=F79_1_D p m w) (hi:=m.length) m.length rfl (by omega) (fun i _=>∀k (hk:k < i) (h2:k < m.length),RowOK p w m[k]) (fun t=>(t= .inl ()∧∀r∈m,RowOK p w r)∨(t= .inr false∧¬∀r∈m,RowOK p w r)) (s:=()) (fun k hk=> by omega) (fun i _ hi hI=> by
  unfold F79_1_B;simp only[getI_nat hi,ob];by_cases hw:(m[i].length:Int)=w
  ·rw[if_pos hw]
   obtain⟨t,h1,h2⟩:=F79_2 (w:=w) hp hi (hs _ (List.getElem_mem hi));rw[h1];rcases h2 with⟨rfl,h2⟩|⟨rfl,h2⟩
   ·left
    refine⟨(),rfl,fun k hk h3=>?_⟩;by_cases e:k=i
    ·subst e; exact⟨hw,h2⟩
    ·exact hI k (by omega) h3
   ·right
    exact⟨_,rfl,.inr ⟨rfl,fun ha=> h2 (ha _ (List.getElem_mem hi)).2⟩⟩
  ·rw[if_neg hw]
   right;exact⟨_,rfl,.inr ⟨rfl,fun ha=> hw (ha _ (List.getElem_mem hi)).1⟩⟩) (fun _ hI=>⟨.inl (),rfl,.inl ⟨rfl,fun r hr=> by
    obtain⟨k,hk,rfl⟩:=List.getElem_of_mem hr;exact hI k hk hk⟩⟩)
 rw[h1];rcases h2 with⟨rfl,h2⟩|⟨rfl,h2⟩
 ·exact .of_true rfl ⟨hc,h2⟩
 ·exact .of_false rfl fun h=> h2 h.2
def addRow(p x:Int)(out row:List Int):List Int:=List.zipWith (fun o y=>(o+x*y).tmod p) out row
def linN(p:Int)(n:Nat)(v:List Int)(m:List (List Int)):Nat→List Int
 |0=> List.replicate n 0
 |i+1=> addRow p (v.getD i 0) (linN p n v m i) (m.getD i [])
def lin(p:Int)(n:Nat)(v:List Int)(m:List (List Int)):List Int:=linN p n v m v.length
structure LinOK (p:Int) (n:Nat) (v:List Int) (m:List (List Int)):Prop where
 hp:2≤p∧p≤7
 hv:∀x∈v,0≤x∧x < p
 hl:v.length≤m.length
 hr:∀l∈m,l.length=n∧∀y∈l,0≤y∧y < p
 hn:n≤1048576
 hvl:v.length≤1048576
theorem small_mul{p x y o:Int}(hp:2≤p∧p≤7)(hx:0≤x∧x < p)(hy:0≤y∧y < p)(ho:0≤o∧o < p):
  chk (x*y)=some (x*y)∧chk (o+x*y)=some (o+x*y)∧0≤(o+x*y).tmod p∧(o+x*y).tmod p < p:=by
 have h1:0≤x*y:=Int.mul_nonneg hx.1 hy.1;have h2:x*y≤6*6:=Int.mul_le_mul (by omega) (by omega) hy.1 (by omega);exact⟨chk_ok (by omega) (by omega),chk_ok (by omega) (by omega),Int.tmod_nonneg _ (by omega),Int.tmod_lt_of_pos _ (by omega)⟩
theorem addRow_len{p x:Int}{out row:List Int}(h:row.length=out.length):(addRow p x out row).length=out.length:=by simp[addRow,h]
theorem addRow_ok{p x:Int}(hp:2≤p∧p≤7)(hx:0≤x∧x < p){out row:List Int}(ho:∀o∈out,0≤o∧o < p)(hy:∀y∈row,0≤y∧y < p):∀o∈addRow p x out row,0≤o∧o < p:=by
 intro o hm;unfold addRow at hm;obtain⟨i,hi,rfl⟩:=List.getElem_of_mem hm;simp at hi ⊢;exact(small_mul hp hx (hy _ (List.getElem_mem (by omega))) (ho _ (List.getElem_mem (by omega)))).2.2
theorem linN_ok{p:Int}{n:Nat}{v:List Int}{m:List (List Int)}(H:LinOK p n v m):∀i,i≤v.length→(linN p n v m i).length=n∧∀o∈linN p n v m i,0≤o∧o < p:=by
 intro i;induction i with
 |zero=> intro _; refine⟨by simp[linN],fun o ho=>?_⟩; simp[linN]at ho; obtain⟨_,rfl⟩:=ho; have:=H.hp; omega
 |succ i ih=>
  intro hi;obtain⟨h1,h2⟩:=ih (by omega);have e1:v.getD i 0=v[i]:=by simp[show i < v.length by omega]
  have hm:i < m.length:=by have:=H.hl; omega
  have e2:m.getD i []=m[i]:=by simp[hm]
  have hr:=H.hr _ (List.getElem_mem hm);simp only[linN,e1,e2];exact⟨by rw[addRow_len (by rw[hr.1,h1]),h1],addRow_ok H.hp (H.hv _ (List.getElem_mem _)) h2 hr.2⟩
def upTo(p x:Int)(out row:List Int)(k:Nat):List Int:=(addRow p x out row).take k++out.drop k
theorem upTo_len{p x:Int}{out row:List Int}(h:row.length=out.length)(k:Nat)(hk:k≤out.length):(upTo p x out row k).length=out.length:=by
 simp[upTo,addRow_len h]; omega
theorem upTo_at{p x:Int}{out row:List Int}(h:row.length=out.length){k:Nat}(hk:k < out.length)(h2:k < (upTo p x out row k).length):(upTo p x out row k)[k]=out[k]:=by
 have e:(upTo p x out row k)[k]? =some out[k]:=by
  unfold upTo;rw[List.getElem?_append_right (by simp[addRow_len h]; omega)];simp[addRow_len h,Nat.min_eq_left (Nat.le_of_lt hk),hk]
 rw[List.getElem?_eq_getElem h2]at e;exact Option.some.inj e
theorem upTo_set{p x:Int}{out row:List Int}(h:row.length=out.length){k:Nat}(hk:k < out.length):
  (upTo p x out row k).set k ((out[k]+x*(row[k]'(by omega))).tmod p)=upTo p x out row (k+1):=by
 have hl:=addRow_len (p:=p) (x:=x) h;unfold upTo;rw[List.set_append_right _ _ (by simp[hl]; omega),List.take_succ_eq_append_getElem (by omega:k < (addRow p x out row).length)];have e1:((addRow p x out row).take k).length=k:=by simp[hl]; omega
 rw[e1,Nat.sub_self];simp[addRow];rw[List.drop_eq_getElem_cons hk];rfl
theorem upTo_zero{p x:Int}{out row:List Int}:upTo p x out row 0=out:=by simp[upTo]
theorem upTo_all{p x:Int}{out row:List Int}(h:row.length=out.length):upTo p x out row out.length=addRow p x out row:=by
 have hl:=addRow_len (p:=p) (x:=x) h;unfold upTo;rw[List.take_of_length_le (by omega),List.drop_of_length_le (by omega),List.append_nil]
theorem F80_eq{p:Int}{n:Nat}{v:List Int}{m:List (List Int)}(H:LinOK p n v m){w:Int}(hw:w=n):F80 p m v w=some (lin p n v m):=by
 have hn:=H.hn;have hvl:=H.hvl;have hlm:=H.hl;unfold F80;rw[mkL_ok n hw (by omega) (by omega),ob];obtain⟨t,h1,rfl⟩:=forR_inv (B:=F80_1_B p m v) (D:=F80_1_D p m v) (hi:=v.length) v.length rfl (by omega) (fun i s=> s=linN p n v m i) (fun t=> t=lin p n v m) (s:=List.replicate n 0) rfl (fun i s hi hI=> by
  subst hI;left;obtain⟨q1,q2⟩:=linN_ok H i (by omega);have hm:i < m.length:=by omega
  obtain⟨r1,r2⟩:=H.hr _ (List.getElem_mem hm);have hx:=H.hv _ (List.getElem_mem hi);have e1:v.getD i 0=v[i]:=by simp[hi]
  have e2:m.getD i []=m[i]:=by simp[hm]
  refine⟨_,?_,rfl⟩;unfold F80_1_B;have hlen:m[i].length=(linN p n v m i).length:=by omega
  obtain⟨t,h1,rfl⟩:=loopW_inv (S:=F80_2_S p m v i) (fun s=>(n - s.2).toNat) (fun s=>∃k:Nat,k≤n∧s=(upTo p v[i] (linN p n v m i) m[i] k,(k:Int))) (fun t=> t=linN p n v m (i+1)) (s:=(linN p n v m i,0)) ⟨0,by omega,by rw[upTo_zero]; rfl⟩ (by
   rintro _ ⟨k,hk,rfl⟩;unfold F80_2_S;have hul:=upTo_len (p:=p) (x:=v[i]) hlen k (by omega);simp only;by_cases hlt:(k:Int) < (upTo p v[i] (linN p n v m i) m[i] k).length
   ·rw[if_pos hlt]
    have hk1:k < (upTo p v[i] (linN p n v m i) m[i] k).length:=by omega
    have hk2:k < (linN p n v m i).length:=by omega
    have hk3:k < m[i].length:=by omega
    obtain⟨s1,s2,s3,s4⟩:=small_mul H.hp hx (r2 _ (List.getElem_mem hk3)) (q2 _ (List.getElem_mem hk2));have hp0:p≠0:=by have:=H.hp; omega
    left;refine⟨(upTo p v[i] (linN p n v m i) m[i] (k+1),((k+1:Nat):Int)),?_,⟨k+1,by omega,rfl⟩,by simp only; omega⟩;simp only[getI_nat hk1,upTo_at hlen hk2 hk1,getI_nat hi,getI_nat hm,getI_nat hk3,ob,s1,s2,remI_ok hp0,setI_nat hk1,upTo_set hlen hk2,chk_ok (show(-9223372036854775808:Int)≤(k:Int)+1 by omega) (show(k:Int)+1 < 9223372036854775808 by omega)];rfl
   ·rw[if_neg hlt]
    right;have hkn:k=(linN p n v m i).length:=by omega
    refine⟨_,rfl,?_⟩;rw[hkn,upTo_all hlen];simp only[linN,e1,e2])
  rw[h1];rfl) (fun s hI=>⟨_,rfl,hI⟩)
 rw[h1];rfl
theorem F119_2_eq{p:Int}{n:Nat}{v:List Int}{m:List (List Int)}(H:LinOK p n v m){i:Nat}(hi:i < v.length)(hm:i < m.length):
  forR 0 (m[i].length:Int) (F119_2_B p v m i v[i] m[i]) (F119_2_D p v m i v[i] m[i]) (linN p n v m i)=some (linN p n v m (i+1)):=by
 have hn:=H.hn;obtain⟨q1,q2⟩:=linN_ok H i (by omega);obtain⟨r1,r2⟩:=H.hr _ (List.getElem_mem hm);have hx:=H.hv _ (List.getElem_mem hi);have e1:v.getD i 0=v[i]:=by simp[hi]
 have e2:m.getD i []=m[i]:=by simp[hm]
 have hlen:m[i].length=(linN p n v m i).length:=by omega
 have hp0:p≠0:=by have:=H.hp; omega
 obtain⟨t,h1,rfl⟩:=forR_inv (B:=F119_2_B p v m i v[i] m[i]) (D:=F119_2_D p v m i v[i] m[i]) (hi:=m[i].length) m[i].length rfl (by omega) (fun k s=> s=upTo p v[i] (linN p n v m i) m[i] k) (fun t=> t=linN p n v m (i+1)) (s:=linN p n v m i) upTo_zero.symm (by
  intro k s hk hI;subst hI;left;have hul:=upTo_len (p:=p) (x:=v[i]) hlen k (by omega);have hk1:k < (upTo p v[i] (linN p n v m i) m[i] k).length:=by omega
  have hk2:k < (linN p n v m i).length:=by omega
  obtain⟨s1,s2,s3,s4⟩:=small_mul H.hp hx (r2 _ (List.getElem_mem hk)) (q2 _ (List.getElem_mem hk2));refine⟨_,?_,rfl⟩;unfold F119_2_B;simp only[getI_nat hk,getI_nat hk1,upTo_at hlen hk2 hk1,ob,s1,s2,remI_ok hp0,setI_nat hk1,upTo_set hlen hk2]) (by
  intro s hI;refine⟨s,rfl,?_⟩;rw[hI,hlen,upTo_all hlen];simp only[linN,e1,e2])
 exact h1
theorem F119_1_eq{p:Int}{n:Nat}{v:List Int}{m:List (List Int)}(H:LinOK p n v m)(i:Nat)(hi:i < v.length):F119_1_B p v m (i:Int) (linN p n v m i)=some (.inl (linN p n v m (i+1))):=by
 have hlm:=H.hl;have hm:i < m.length:=by omega
 unfold F119_1_B;rw[getI_nat hi,ob,getI_nat hm,ob,F119_2_eq H hi hm,ob]
theorem F119_eq{p:Int}{n:Nat}{v:List Int}{m:List (List Int)}(H:LinOK p n v m){w:Int}(hw:w=n):F119 p w v m=some (lin p n v m):=by
 have hn:=H.hn;have hvl:=H.hvl;have hs:v.length < 4611686018427387904:=by omega
 unfold F119;rw[mkL_ok n hw (by omega) (by omega),ob];obtain⟨t,h1,rfl⟩:=forR_inv (B:=F119_1_B p v m) (D:=F119_1_D p v m) (hi:=v.length) v.length rfl hs (fun i s=> s=linN p n v m i) (fun t=> t=lin p n v m) (s:=List.replicate n 0) rfl (by
  intro i s hi hI;subst hI;left;exact⟨_,F119_1_eq H i hi,rfl⟩) (fun s hI=>⟨s,by unfold F119_1_D; rfl,hI⟩)
 rw[h1,ob]
theorem F115_eq{l:List Int}{f:Int→Option Bool}(P:Int→Bool)(hl:l.length≤1099511627776)(hf:∀x∈l,f x=some (P x)):∃i:Int,F115 l f=some i∧(0≤i↔∃x∈l,P x=true):=by
 unfold F115;have hs:l.length < 4611686018427387904:=by omega
 obtain⟨t,h1,h2⟩:=forR_inv (B:=F115_1_B l f) (D:=F115_1_D l f) (hi:=l.length) l.length rfl hs (fun i _=>∀k (hk:k < i) (h2:k < l.length),P l[k]=false) (fun t=>(t= .inl ()∧∀x∈l,P x=false)∨∃i:Nat,t= .inr (i:Int)∧∃x∈l,P x=true) (s:=()) (fun k hk=> by omega) (by
  intro i _ hi hI;unfold F115_1_B;rw[getI_nat hi,ob,hf _ (List.getElem_mem hi),ob];cases hp:P l[i]with
  |true=> right; exact⟨_,rfl,.inr ⟨i,rfl,_,List.getElem_mem hi,hp⟩⟩
  |false=>
   left;refine⟨(),rfl,fun k hk h2=>?_⟩;by_cases e:k=i
   ·subst e; exact hp
   ·exact hI k (by omega) h2) (by
  intro _ hI;refine⟨.inl (),rfl,.inl ⟨rfl,fun x hx=>?_⟩⟩;obtain⟨k,hk,rfl⟩:=List.getElem_of_mem hx;exact hI k hk hk)
 rw[h1];rcases h2 with⟨rfl,h2⟩|⟨i,rfl,h2⟩
 ·exact⟨-1,rfl,⟨fun h=> by omega,fun⟨x,hx,hp⟩=> by rw[h2 x hx]at hp; cases hp⟩⟩
 ·exact⟨i,rfl,⟨fun _=> h2,fun _=> Int.natCast_nonneg i⟩⟩
theorem F82_eq{l:List Int}{f:Int→Option Bool}(P:Int→Bool)(hl:l.length≤1099511627776)(hf:∀x∈l,f x=some (P x)):F82 l f=some (l.any P):=by
 obtain⟨i,h1,h2⟩:=F115_eq P hl hf;unfold F82;rw[h1,ob];have:decide (0≤i)=l.any P:=by
  rw[Bool.eq_iff_iff];simp only[decide_eq_true_eq,List.any_eq_true];exact h2
 rw[this]
theorem F128_eq{l:List (List Int)}{f:List Int→Option Bool}(P:List Int→Bool)(hl:l.length≤1099511627776)(hf:∀x∈l,f x=some (P x)):∃i:Int,F128 l f=some i∧(0≤i↔∃x∈l,P x=true):=by
 unfold F128;have hs:l.length < 4611686018427387904:=by omega
 obtain⟨t,h1,h2⟩:=forR_inv (B:=F128_1_B l f) (D:=F128_1_D l f) (hi:=l.length) l.length rfl hs (fun i _=>∀k (hk:k < i) (h2:k < l.length),P l[k]=false) (fun t=>(t= .inl ()∧∀x∈l,P x=false)∨∃i:Nat,t= .inr (i:Int)∧∃x∈l,P x=true) (s:=()) (fun k hk=> by omega) (by
  intro i _ hi hI;unfold F128_1_B;rw[getI_nat hi,ob,hf _ (List.getElem_mem hi),ob];cases hp:P l[i]with
  |true=> right; exact⟨_,rfl,.inr ⟨i,rfl,_,List.getElem_mem hi,hp⟩⟩
  |false=>
   left;refine⟨(),rfl,fun k hk h2=>?_⟩;by_cases e:k=i
   ·subst e; exact hp
   ·exact hI k (by omega) h2) (by
  intro _ hI;refine⟨.inl (),rfl,.inl ⟨rfl,fun x hx=>?_⟩⟩;obtain⟨k,hk,rfl⟩:=List.getElem_of_mem hx;exact hI k hk hk)
 rw[h1];rcases h2 with⟨rfl,h2⟩|⟨i,rfl,h2⟩
 ·exact⟨-1,rfl,⟨fun h=> by omega,fun⟨x,hx,hp⟩=> by rw[h2 x hx]at hp; cases hp⟩⟩
 ·exact⟨i,rfl,⟨fun _=> h2,fun _=> Int.natCast_nonneg i⟩⟩
theorem F117_eq{l:List (List Int)}{f:List Int→Option Bool}(P:List Int→Bool)(hl:l.length≤1099511627776)(hf:∀x∈l,f x=some (P x)):F117 l f=some (l.any P):=by
 obtain⟨i,h1,h2⟩:=F128_eq P hl hf;unfold F117;rw[h1,ob];have:decide (0≤i)=l.any P:=by
  rw[Bool.eq_iff_iff];simp only[decide_eq_true_eq,List.any_eq_true];exact h2
 rw[this]
def rowB(p w:Int)(row:List Int):Bool:=decide ((row.length:Int)=w)&& row.all fun x=> decide (0≤x∧x < p)
theorem rowB_iff{p w:Int}{row:List Int}:rowB p w row=true↔RowOK p w row:=by
 unfold rowB RowOK;simp only[Bool.and_eq_true,decide_eq_true_eq,List.all_eq_true]
theorem F130_eq{p:Int}(hp:2≤p∧p≤7)(x:Int):F130 x p=some (!decide (0≤x∧x < p)):=by
 unfold F130;rw[chk_ok (by omega) (by omega),ob,F56_eq,ob]
 congr 3
 exact propext ⟨fun h=>⟨h.1,by omega⟩,fun h=>⟨h.1,by omega⟩⟩
theorem F129_eq{p w:Int}(hp:2≤p∧p≤7){l:List Int}(hl:l.length≤1099511627776):F129 p w l=some (rowB p w l):=by
 unfold F129 rowB;by_cases h:(l.length:Int)=w
 ·rw[if_pos h,F82_eq (fun x=> !decide (0≤x∧x < p)) hl (fun x _=> F130_eq hp x),ob]
  simp[h,List.not_any_eq_all_not]
 ·rw[if_neg h]; simp[h]
theorem F116_eq{p w:Int}(hp:2≤p∧p≤7){l:List Int}(hl:l.length≤1099511627776):F116 l p w=some (!rowB p w l):=by
 unfold F116; rw[F129_eq hp hl,ob]
theorem F90_eq{p w:Int}(hp:2≤p∧p≤7){m:List (List Int)}(hm:m.length≤1099511627776)(hs:∀r∈m,r.length≤1099511627776):F90 p w m=some (m.all (rowB p w)):=by
 unfold F90;rw[F117_eq (fun r=> !rowB p w r) hm (fun r hr=> F116_eq hp (hs r hr)),ob];simp[List.not_any_eq_all_not]
theorem F90_tells{p w:Int}(hp:2≤p∧p≤7){m:List (List Int)}(hm:m.length≤1099511627776)(hs:∀r∈m,r.length≤1099511627776):Tells (F90 p w m) (∀r∈m,RowOK p w r):=
 ⟨_,F90_eq hp hm hs,by simp only[List.all_eq_true,rowB_iff]⟩
theorem F92_tells{l:List Int}(hl:l.length≤1099511627776):Tells (F92 l) (∀x∈l,x=0):=by
 unfold F92;have h:F82 l (fun x=> F118 x)=some (l.any fun x=> !decide (x=0)):=F82_eq _ hl (fun x _=> rfl);rw[h,ob];exact⟨_,rfl,by simp[List.not_any_eq_all_not]⟩
theorem F81_tells{l:List Int}(hl:l.length≤1099511627776):∃i,F81 l=some i∧(0≤i↔¬∀x∈l,x=0):=by
 unfold F81;have hs:l.length < 4611686018427387904:=by omega
 obtain⟨t,h1,h2⟩:=forR_inv (B:=F81_1_B l) (D:=F81_1_D l) (hi:=l.length) l.length rfl hs (fun i _=>∀k (hk:k < i) (h2:k < l.length),l[k]=0) (fun t=>(t= .inl ()∧∀x∈l,x=0)∨∃i:Nat,t= .inr (i:Int)∧¬∀x∈l,x=0) (s:=()) (fun k hk=> by omega) (by
  intro i _ hi hI;unfold F81_1_B;rw[getI_nat hi,ob];by_cases hp:l[i]=0
  ·rw[if_pos hp]
   left;refine⟨(),rfl,fun k hk h2=>?_⟩;by_cases e:k=i
   ·subst e; exact hp
   ·exact hI k (by omega) h2
  ·rw[if_neg hp]
   right;exact⟨_,rfl,.inr ⟨i,rfl,fun ha=> hp (ha _ (List.getElem_mem hi))⟩⟩) (by
  intro _ hI;refine⟨.inl (),rfl,.inl ⟨rfl,fun x hx=>?_⟩⟩;obtain⟨k,hk,rfl⟩:=List.getElem_of_mem hx;exact hI k hk hk)
 rw[h1];rcases h2 with⟨rfl,h2⟩|⟨i,rfl,h2⟩
 ·exact⟨-1,rfl,⟨fun h=> by omega,fun h=> absurd h2 h⟩⟩
 ·exact⟨i,rfl,⟨fun _=> h2,fun _=> Int.natCast_nonneg i⟩⟩
structure SmallC (x:GComplex):Prop where
 d:x.Dims.length≤1048576
 m:x.Maps.length≤1048576
 r:∀m∈x.Maps,m.length≤1048576∧∀l∈m,l.length≤1048576
structure ShapeC (x:GComplex):Prop where
 p:IsP x.Prime
 dl:1≤x.Dims.length∧x.Dims.length≤6
 ml:x.Maps.length+1=x.Dims.length
 dims:∀d∈x.Dims,0≤d∧d≤8
def TabAt(x:GComplex)(k:Nat):Prop:=TableOK x.Prime (x.Dims.getD (k+1) 0) (x.Dims.getD k 0) (x.Maps.getD k [])
def SqAt(x:GComplex)(k:Nat):Prop:=∀row∈x.Maps.getD k [],∀y∈lin x.Prime (x.Dims.getD (k - 1) 0).toNat row (x.Maps.getD (k - 1) []),y=0
structure ValidC (x:GComplex):Prop extends ShapeC x where
 tab:∀k,k < x.Maps.length→TabAt x k
 sq:∀k,0 < k→k < x.Maps.length→SqAt x k
theorem lin_len{p:Int}{n:Nat}{v:List Int}{m:List (List Int)}(H:LinOK p n v m):(lin p n v m).length=n:=(linN_ok H _ (Nat.le_refl _)).1
theorem linOK_of{x:GComplex}(hs:ShapeC x){k:Nat}(h1:0 < k)(h2:k < x.Maps.length)(t1:TabAt x (k - 1))(t2:TabAt x k){row:List Int}(hr:row∈x.Maps.getD k []):
  LinOK x.Prime (x.Dims.getD (k - 1) 0).toNat row (x.Maps.getD (k - 1) [])∧0≤x.Dims.getD (k - 1) 0∧x.Dims.getD (k - 1) 0≤8:=by
 have hd:∀j,j < x.Dims.length→0≤x.Dims.getD j 0∧x.Dims.getD j 0≤8:=fun j hj=> by
  have:=hs.dims _ (List.getElem_mem hj);simpa[hj]using this
 have hml:=hs.ml;have d1:=hd (k - 1) (by omega);have d2:=hd k (by omega);obtain⟨q1,q2⟩:=t2.2 row hr;refine⟨⟨hs.p.range,q2,?_,fun l hl=>?_,?_,?_⟩,d1⟩
 ·have:=t1.1
  have e:k - 1+1=k:=by omega
  rw[e]at this;omega
 ·obtain⟨r1,r2⟩:=t1.2 l hl
  exact⟨by omega,r2⟩
 ·omega
 ·omega
theorem F86_eq{x:GComplex}(h:x.Dims.length≤1048576):F86 x=some ((x.Dims.length:Int) - 1):=by
 unfold F86; rw[chk_ok (by omega) (by omega),ob]
theorem mapsD{x:GComplex}{k:Nat}(h:k < x.Maps.length):x.Maps.getD k []=x.Maps[k]:=by simp[h]
theorem F39_3_eq{x:GComplex}(hs:ShapeC x){k:Nat}(h2:k < x.Maps.length)(t1:0 < k→TabAt x (k - 1))(t2:TabAt x k)(hsm:SmallC x):
  ∃t,loopW (F39_3_S x (k:Int)) 0=some t∧((t= .inl ()∧(0 < k→SqAt x k))∨(t= .inr false∧0 < k∧¬SqAt x k)):=by
 have hml:=hs.ml;have hdl:=hs.dl;have hk:=(hsm.r _ (List.getElem_mem h2)).1;refine loopW_inv (fun j:Int=>(x.Maps[k].length - j).toNat) (fun j=>∃n:Nat,j=n∧n≤x.Maps[k].length∧(0 < k→∀i (hi:i < n) (h3:i < x.Maps[k].length),∀y∈lin x.Prime (x.Dims.getD (k - 1) 0).toNat x.Maps[k][i] (x.Maps.getD (k - 1) []),y=0)) _ ⟨0,rfl,by omega,fun _ i hi=> by omega⟩ ?_;rintro _ ⟨n,rfl,hn,hall⟩;unfold F39_3_S;rw[getI_nat h2,ob];by_cases hlt:(n:Int) < x.Maps[k].length
 ·rw[if_pos hlt]
  have hnl:n < x.Maps[k].length:=by omega
  by_cases h0:0 < k
  ·rw[if_pos (by omega)]
   obtain⟨H,d0,d8⟩:=linOK_of hs h0 h2 (t1 h0) t2 (row:=x.Maps[k][n]) (by rw[mapsD h2]; exact List.getElem_mem hnl);have e1:((k:Int) - 1)=((k - 1:Nat):Int):=by omega
   rw[chk_ok (by omega) (by omega),ob,e1,getI_getD (show k - 1 < x.Maps.length by omega) [],ob,getI_nat hnl,ob,getI_getD (show k - 1 < x.Dims.length by omega) 0,ob,
    F80_eq H (by omega),ob]
   obtain⟨i,g1,g2⟩:=F81_tells (l:=lin x.Prime (x.Dims.getD (k - 1) 0).toNat x.Maps[k][n] (x.Maps.getD (k - 1) [])) (by rw[lin_len H]; omega);rw[g1,ob];by_cases hz:0≤i
   ·rw[if_pos hz]
    right;refine⟨_,rfl,.inr ⟨rfl,h0,fun ha=> g2.1 hz (ha _ (by rw[mapsD h2]; exact List.getElem_mem hnl))⟩⟩
   ·rw[if_neg hz]
    left;rw[chk_ok (by omega) (by omega),ob];refine⟨_,rfl,⟨n+1,rfl,hnl,fun _ i hi h3=>?_⟩,by omega⟩;by_cases e:i=n
    ·subst e
     exact Classical.byContradiction fun hq=> hz (g2.2 hq)
    ·exact hall h0 i (by omega) h3
  ·rw[if_neg (by omega)]
   right;exact⟨_,rfl,.inl ⟨rfl,fun h=> absurd h h0⟩⟩
 ·rw[if_neg hlt]
  right;refine⟨_,rfl,.inl ⟨rfl,fun h0 row hr=>?_⟩⟩;rw[mapsD h2]at hr;obtain⟨i,hi,rfl⟩:=List.getElem_of_mem hr;exact hall h0 i (by omega) hi
theorem F39_2_eq{x:GComplex}(hs:ShapeC x)(hsm:SmallC x):
  ∃t,forR 0 (x.Maps.length:Int) (F39_2_B x) (F39_2_D x) ()=some t∧((t= .inl ()∧(∀k,k < x.Maps.length→TabAt x k)∧∀k,0 < k→k < x.Maps.length→SqAt x k)∨(t= .inr false∧¬((∀k,k < x.Maps.length→TabAt x k)∧∀k,0 < k→k < x.Maps.length→SqAt x k))):=by
 have hml:=hs.ml;have hm:=hsm.m;have hlen:x.Maps.length < 4611686018427387904:=by omega
 refine forR_inv x.Maps.length rfl hlen (fun i _=>(∀k,k < i→TabAt x k)∧∀k,0 < k→k < i→SqAt x k) _ ⟨fun k hk=> by omega,fun k _ hk=> by omega⟩ ?_ ?_
 ·rintro i _ hi ⟨ht,hq⟩
  unfold F39_2_B;have e2:((i:Int)+1)=((i+1:Nat):Int):=by omega
  have hr:=hsm.r _ (List.getElem_mem hi);rw[getI_nat hi,ob,e2,getI_getD (show i+1 < x.Dims.length by omega) 0,ob,getI_getD (show i < x.Dims.length by omega) 0,ob];have hT:=F79_tells (p:=x.Prime) (c:=x.Dims.getD (i+1) 0) (w:=x.Dims.getD i 0) (m:=x.Maps[i]) hs.p.range (by omega) (fun r h=> by have:=hr.2 r h; omega);rcases hT.case with⟨h1,h2⟩|⟨h1,h2⟩
  ·rw[h1,ob,if_pos rfl]
   have hti:TabAt x i:=by unfold TabAt; rw[mapsD hi]; exact h2
   obtain⟨t,g1,g2⟩:=F39_3_eq hs hi (fun h0=> ht _ (by omega)) hti hsm;rw[g1,ob];rcases g2 with⟨rfl,g2⟩|⟨rfl,g0,g2⟩
   ·left
    refine⟨(),rfl,fun k hk=>?_,fun k h0 hk=>?_⟩
    ·by_cases e:k=i
     ·subst e; exact hti
     ·exact ht k (by omega)
    ·by_cases e:k=i
     ·subst e; exact g2 h0
     ·exact hq k h0 (by omega)
   ·right
    exact⟨_,rfl,.inr ⟨rfl,fun ha=> g2 (ha.2 i g0 hi)⟩⟩
  ·rw[h1,ob,if_neg Bool.false_ne_true]
   right;refine⟨_,rfl,.inr ⟨rfl,fun ha=> h2 ?_⟩⟩;have:=ha.1 i hi;unfold TabAt at this;rw[mapsD hi]at this;exact this
 ·rintro _ ⟨ht,hq⟩
  exact⟨.inl (),rfl,.inl ⟨rfl,ht,hq⟩⟩
theorem F39_1_eq{x:GComplex}(hsm:SmallC x):∃t,forR 0 (x.Dims.length:Int) (F39_1_B x) (F39_1_D x) ()=some t∧((t= .inl ()∧∀d∈x.Dims,0≤d∧d≤8)∨(t= .inr false∧¬∀d∈x.Dims,0≤d∧d≤8)):=by
 have hm:=hsm.d;have hlen:x.Dims.length < 4611686018427387904:=by omega
 refine forR_inv x.Dims.length rfl hlen (fun i _=>∀k (hk:k < i) (h2:k < x.Dims.length),0≤x.Dims[k]∧x.Dims[k]≤8) _ (fun k hk=> by omega) ?_ ?_
 ·rintro i _ hi hI
  unfold F39_1_B;rw[getI_nat hi,ob,F54_eq,ob];by_cases h:0≤x.Dims[i]∧x.Dims[i]≤8
  ·rw[if_pos (by simpa using h)]
   left;refine⟨(),rfl,fun k hk h2=>?_⟩;by_cases e:k=i
   ·subst e; exact h
   ·exact hI k (by omega) h2
  ·rw[if_neg (by simpa using h)]
   right;exact⟨_,rfl,.inr ⟨rfl,fun ha=> h (ha _ (List.getElem_mem hi))⟩⟩
 ·rintro _ hI
  refine⟨.inl (),rfl,.inl ⟨rfl,fun d hd=>?_⟩⟩;obtain⟨k,hk,rfl⟩:=List.getElem_of_mem hd;exact hI k hk hk
theorem F39_tells{x:GComplex}(hsm:SmallC x):Tells (F39 x) (ValidC x):=by
 have hd:=hsm.d;unfold F39;rcases(F78_tells x.Prime).case with⟨h1,hp⟩|⟨h1,hp⟩
 case inr=> rw[h1,ob,if_neg Bool.false_ne_true]; exact .of_false rfl fun h=> hp h.p
 rw[h1,ob,if_pos rfl];by_cases c1:(x.Dims.length:Int) < 1
 ·rw[if_pos c1]; exact .of_false rfl fun h=> by have:=h.dl; omega
 rw[if_neg c1];by_cases c2:6 < (x.Dims.length:Int)
 ·rw[if_pos c2]; exact .of_false rfl fun h=> by have:=h.dl; omega
 rw[if_neg c2,chk_ok (by omega) (by omega),ob];by_cases c3:(x.Maps.length:Int)=(x.Dims.length:Int) - 1
 case neg=> rw[if_neg c3]; exact .of_false rfl fun h=> by have:=h.ml; omega
 rw[if_pos c3];obtain⟨t,g1,g2⟩:=F39_1_eq hsm;rw[g1,ob];rcases g2 with⟨rfl,g2⟩|⟨rfl,g2⟩
 case inr=> exact .of_false rfl fun h=> g2 h.dims
 have hs:ShapeC x:=⟨hp,by omega,by omega,g2⟩;obtain⟨t,k1,k2⟩:=F39_2_eq hs hsm;simp only;rw[k1,ob];rcases k2 with⟨rfl,k2,k3⟩|⟨rfl,k2⟩
 ·exact .of_true rfl ⟨hs,k2,k3⟩
 ·exact .of_false rfl fun h=> k2 ⟨h.tab,h.sq⟩
theorem F42_1_eq{x:GComplex}(hs:ShapeC x)(hsm:SmallC x):
  ∃t,forR 0 (x.Maps.length:Int) (F42_1_B x) (F42_1_D x) ()=some t∧((t= .inl ()∧∀k,k < x.Maps.length→TabAt x k)∨(t= .inr false∧¬∀k,k < x.Maps.length→TabAt x k)):=by
 have hml:=hs.ml;have hm:=hsm.m;have hlen:x.Maps.length < 4611686018427387904:=by omega
 refine forR_inv x.Maps.length rfl hlen (fun i _=>∀k,k < i→TabAt x k) _ (fun k hk=> by omega) ?_ ?_
 ·rintro i _ hi ht
  unfold F42_1_B;have e2:((i:Int)+1)=((i+1:Nat):Int):=by omega
  have hr:=hsm.r _ (List.getElem_mem hi);rw[getI_nat hi,ob,e2,getI_getD (show i+1 < x.Dims.length by omega) 0,ob];have hti:TabAt x i↔((x.Maps[i].length:Int)=x.Dims.getD (i+1) 0∧∀r∈x.Maps[i],RowOK x.Prime (x.Dims.getD i 0) r):=by unfold TabAt; rw[mapsD hi]; rfl
  by_cases hc:(x.Maps[i].length:Int)=x.Dims.getD (i+1) 0
  ·rw[if_pos hc,getI_getD (show i < x.Dims.length by omega) 0,ob]
   have hT:=F90_tells (p:=x.Prime) (w:=x.Dims.getD i 0) (m:=x.Maps[i]) hs.p.range (by omega) (fun r h=> by have:=hr.2 r h; omega);rcases hT.case with⟨h1,h2⟩|⟨h1,h2⟩
   ·rw[h1,ob,if_pos rfl]
    left;refine⟨(),rfl,fun k hk=>?_⟩;by_cases e:k=i
    ·subst e; exact hti.2 ⟨hc,h2⟩
    ·exact ht k (by omega)
   ·rw[h1,ob,if_neg Bool.false_ne_true]
    right;exact⟨_,rfl,.inr ⟨rfl,fun ha=> h2 (hti.1 (ha i hi)).2⟩⟩
  ·rw[if_neg hc]
   right;exact⟨_,rfl,.inr ⟨rfl,fun ha=> hc (hti.1 (ha i hi)).1⟩⟩
 ·rintro _ ht
  exact⟨.inl (),rfl,.inl ⟨rfl,ht⟩⟩
theorem F91_eq{x:GComplex}(hs:ShapeC x)(hsm:SmallC x){k:Nat}(h1:0 < k)(h2:k < x.Maps.length)(t1:TabAt x (k - 1))(t2:TabAt x k){row:List Int}(hr:row∈x.Maps.getD k []):
  F91 x (k:Int) row=some (lin x.Prime (x.Dims.getD (k - 1) 0).toNat row (x.Maps.getD (k - 1) [])):=by
 have hml:=hs.ml;have hdl:=hs.dl;obtain⟨H,d0,d8⟩:=linOK_of hs h1 h2 t1 t2 hr;unfold F91;have e1:((k:Int) - 1)=((k - 1:Nat):Int):=by omega
 rw[if_neg (by omega),F86_eq hsm.d,ob,if_neg (by omega),chk_ok (by omega) (by omega),ob,e1,getI_getD (show k - 1 < x.Dims.length by omega) 0,ob,getI_getD (show k - 1 < x.Maps.length by omega) [],ob,
  F119_eq H (by omega),ob]
theorem F42_3_eq{x:GComplex}(hs:ShapeC x)(hsm:SmallC x)(ht:∀k,k < x.Maps.length→TabAt x k){n:Nat}(hn:2≤n)(h2:n - 1 < x.Maps.length):
  ∃t,forR 0 ((x.Maps[n - 1].length:Nat):Int) (F42_3_B x (n:Int) x.Maps[n - 1]) (F42_3_D x (n:Int) x.Maps[n - 1]) ()=some t∧((t= .inl ()∧SqAt x (n - 1))∨(t= .inr false∧¬SqAt x (n - 1))):=by
 have hml:=hs.ml;have hdl:=hs.dl;have hk:=(hsm.r _ (List.getElem_mem h2)).1;have hlen:x.Maps[n - 1].length < 4611686018427387904:=by omega
 refine forR_inv x.Maps[n - 1].length rfl hlen (fun i _=>∀j (hj:j < i) (h3:j < x.Maps[n - 1].length),∀y∈lin x.Prime (x.Dims.getD (n - 1 - 1) 0).toNat x.Maps[n - 1][j] (x.Maps.getD (n - 1 - 1) []),y=0) _ (fun j hj=> by omega) ?_ ?_
 ·rintro i _ hi hI
  unfold F42_3_B;have hrow:x.Maps[n - 1][i]∈x.Maps.getD (n - 1) []:=by rw[mapsD h2]; exact List.getElem_mem hi
  have e1:((n:Int) - 1)=((n - 1:Nat):Int):=by omega
  have t1:=ht (n - 1 - 1) (by omega);have t2:=ht (n - 1) h2;obtain⟨H,d0,d8⟩:=linOK_of hs (by omega) h2 t1 t2 hrow;rw[getI_nat hi,ob,chk_ok (by omega) (by omega),ob,e1,F91_eq hs hsm (by omega) h2 t1 t2 hrow,ob];rcases(F92_tells (l:=lin x.Prime (x.Dims.getD (n - 1 - 1) 0).toNat x.Maps[n - 1][i] (x.Maps.getD (n - 1 - 1) [])) (by rw[lin_len H]; omega)).case with⟨g1,g2⟩|⟨g1,g2⟩
  ·rw[g1,ob,if_pos rfl]
   left;refine⟨(),rfl,fun j hj h3=>?_⟩;by_cases e:j=i
   ·subst e; exact g2
   ·exact hI j (by omega) h3
  ·rw[g1,ob,if_neg Bool.false_ne_true]
   right;exact⟨_,rfl,.inr ⟨rfl,fun ha=> g2 (ha _ hrow)⟩⟩
 ·rintro _ hI
  refine⟨.inl (),rfl,.inl ⟨rfl,fun row hr=>?_⟩⟩;rw[mapsD h2]at hr;obtain⟨j,hj,rfl⟩:=List.getElem_of_mem hr;exact hI j hj hj
theorem F42_2_eq{x:GComplex}(hs:ShapeC x)(hsm:SmallC x)(ht:∀k,k < x.Maps.length→TabAt x k):
  ∃t,loopW (F42_2_S x) 2=some t∧((t= .inl ()∧∀k,0 < k→k < x.Maps.length→SqAt x k)∨(t= .inr false∧¬∀k,0 < k→k < x.Maps.length→SqAt x k)):=by
 have hml:=hs.ml;have hdl:=hs.dl;refine loopW_inv (fun j:Int=>(x.Dims.length+2 - j).toNat) (fun j=>∃n:Nat,j=n∧2≤n∧n≤x.Dims.length+1∧∀k,0 < k→k < n - 1→k < x.Maps.length→SqAt x k) _ ⟨2,rfl,by omega,by omega,fun k h0 hk=> by omega⟩ ?_;rintro _ ⟨n,rfl,hn,hn2,hall⟩;unfold F42_2_S;rw[F86_eq hsm.d,ob];by_cases hlt:(n:Int)≤(x.Dims.length:Int) - 1
 ·rw[if_pos hlt]
  have e1:((n:Int) - 1)=((n - 1:Nat):Int):=by omega
  have h2:n - 1 < x.Maps.length:=by omega
  rw[chk_ok (by omega) (by omega),ob,e1,getI_nat h2,ob];obtain⟨t,g1,g2⟩:=F42_3_eq hs hsm ht hn h2;rw[g1,ob];rcases g2 with⟨rfl,g2⟩|⟨rfl,g2⟩
  ·left
   refine⟨((n+1:Nat):Int),?_,⟨n+1,rfl,by omega,by omega,fun k h0 hk h3=>?_⟩,by omega⟩
   ·simp only
    rw[chk_ok (by omega) (by omega),ob];rfl
   ·by_cases e:k=n - 1
    ·subst e; exact g2
    ·exact hall k h0 (by omega) h3
  ·right
   exact⟨_,rfl,.inr ⟨rfl,fun ha=> g2 (ha _ (by omega) h2)⟩⟩
 ·rw[if_neg hlt]
  right;exact⟨_,rfl,.inl ⟨rfl,fun k h0 hk=> hall k h0 (by omega) hk⟩⟩
theorem F42_tells{x:GComplex}(hsm:SmallC x):Tells (F42 x) (ValidC x):=by
 have hd:=hsm.d;unfold F42;rcases(F67_tells x.Prime).case with⟨h1,hp⟩|⟨h1,hp⟩
 case inr=> rw[h1,ob,if_neg Bool.false_ne_true]; exact .of_false rfl fun h=> hp h.p
 rw[h1,ob,if_pos rfl,F86_eq hd,ob,F56_eq,ob];by_cases c1:0≤(x.Dims.length:Int) - 1∧(x.Dims.length:Int) - 1≤5
 case neg=> rw[if_neg (by simpa using c1)]; exact .of_false rfl fun h=> by have:=h.dl; omega
 rw[if_pos (by simpa using c1)];by_cases c3:(x.Maps.length:Int)=(x.Dims.length:Int) - 1
 case neg=> rw[if_neg c3]; exact .of_false rfl fun h=> by have:=h.ml; omega
 rw[if_pos c3];have h88:F82 x.Dims (fun y=> F88 y)=some (x.Dims.any fun d=> !decide (0≤d∧d≤8)):=F82_eq _ (by omega) (fun d _=> by unfold F88; rw[F56_eq,ob]);rw[h88,ob];have hany:(x.Dims.any fun d=> !decide (0≤d∧d≤8))=true↔¬∀d∈x.Dims,0≤d∧d≤8:=by
  simp only[List.any_eq_true,Bool.not_eq_true',decide_eq_false_iff_not];constructor
  ·rintro⟨d,h1,h2⟩ ha; exact h2 (ha d h1)
  ·intro hn
   exact Classical.byContradiction fun hc=> hn fun d hd=> Classical.byContradiction fun h=> hc ⟨d,hd,h⟩
 by_cases c4:(x.Dims.any fun d=> !decide (0≤d∧d≤8))=true
 ·rw[if_pos c4]; exact .of_false rfl fun h=> hany.1 c4 h.dims
 rw[if_neg c4];have hdims:∀d∈x.Dims,0≤d∧d≤8:=Classical.byContradiction fun hc=> c4 (hany.2 hc);have hs:ShapeC x:=⟨hp,by omega,by omega,hdims⟩;obtain⟨t,g1,g2⟩:=F42_1_eq hs hsm;rw[g1,ob];rcases g2 with⟨rfl,ht⟩|⟨rfl,ht⟩
 case inr=> exact .of_false rfl fun h=> ht h.tab
 obtain⟨t,k1,k2⟩:=F42_2_eq hs hsm ht;simp only;rw[k1,ob];rcases k2 with⟨rfl,k2⟩|⟨rfl,k2⟩
 ·exact .of_true rfl ⟨hs,ht,k2⟩
 ·exact .of_false rfl fun h=> k2 h.sq
structure SmallF (x:GFiltered):Prop where
 c:SmallC x.Complex
 l:x.Levels.length≤1048576
 r:∀q∈x.Levels,q.length≤1048576
def numAt(ms:List (List (List Int)))(k i j:Nat):Int:=((ms.getD k []).getD i []).getD j 0
def InT(ms:List (List (List Int)))(k i j:Nat):Prop:=k < ms.length∧i < (ms.getD k []).length∧j < ((ms.getD k []).getD i []).length
theorem getD_mem{α:Type}{l:List α}{i:Nat}(h:i < l.length)(d:α):l.getD i d∈l:=by
 rw[List.getD_eq_getElem?_getD,List.getElem?_eq_getElem h]; exact List.getElem_mem h
theorem F76_eq{x:GComplex}(hs:x.Dims.length≤1048576){k:Nat}(h:k+1 < x.Dims.length)(hm:k < x.Maps.length):F76 x ((k+1:Nat):Int)=some (x.Maps.getD k []):=by
 unfold F76;have e:(((k+1:Nat):Int) - 1)=(k:Int):=by omega
 rw[chk_ok (by omega) (by omega),ob,F54_eq,ob,if_pos (by simp; omega),chk_ok (by omega) (by omega),ob,e,getI_getD hm [],ob]
abbrev Long0(n:Int):Prop:= -9223372036854775808≤n∧n≤9223372036854775807
abbrev LongL{α:Type}(L:α→Prop)(l:List α):Prop:=l.length≤9223372036854775807∧∀y∈l,L y
structure LongC (x:GComplex):Prop where
 p:Long0 x.Prime
 d:LongL Long0 x.Dims
 m:LongL (LongL (LongL Long0)) x.Maps
theorem F43_eq{a:List Int}(ha:a.length≤9223372036854775807){s:Int}(h0:0≤s)(h1:s≤1048576):∃z,F43 a s=some z∧(z < 0∨(0≤z∧z≤1048576∧a.length≤1048576)):=by
 unfold F43;rw[chk_ok (by omega) (by omega),ob];by_cases h:s - (a.length:Int) < 0
 ·rw[if_pos h]; exact⟨_,rfl,.inl (by decide)⟩
 ·rw[if_neg h]; exact⟨_,rfl,.inr ⟨by omega,by omega,by omega⟩⟩
theorem sz_loop{α:Type}{l:List α}(S:α→Prop){B:Int→Int→Option (Int⊕(Int⊕Int))}{D:Int→Int→Option (Int⊕Int)}(hl:l.length≤1048576)
  (hB:∀ (i:Nat) (hi:i < l.length) (v:Int),0≤v→v≤1048576→(∃z,B i v=some (.inl z)∧0≤z∧z≤1048576∧S l[i])∨B i v=some (.inr (.inr (-1)))) (hD:∀v,D (l.length:Int) v=some (.inl v)∨∀i v,D i v=some (.inl v)) (hD':∀i v,D i v=some (.inl v))
  {s:Int} (h0:0≤s) (h1:s≤1048576):∃t,forR 0 (l.length:Int) B D s=some t∧((∃z,t= .inl z∧0≤z∧z≤1048576∧∀y∈l,S y)∨t= .inr (-1)):=by
 have hlen:l.length < 4611686018427387904:=by omega
 refine forR_inv l.length rfl hlen (fun i v=> 0≤v∧v≤1048576∧∀k (h:k < l.length),k < i→S l[k]) _ ⟨h0,h1,fun k _ hk=> by omega⟩ ?_ ?_
 ·rintro i v hi ⟨p0,p1,p2⟩
  rcases hB i hi v p0 p1 with⟨z,q1,q2,q3,q4⟩|q
  ·left
   refine⟨z,q1,q2,q3,fun k h hk=>?_⟩;by_cases e:k=i
   ·subst e; exact q4
   ·exact p2 k h (by omega)
  ·right
   exact⟨_,q,.inr rfl⟩
 ·rintro v ⟨p0,p1,p2⟩
  refine⟨_,hD' _ _,.inl ⟨v,rfl,p0,p1,fun y hy=>?_⟩⟩;obtain⟨k,hk,rfl⟩:=List.getElem_of_mem hy;exact p2 k hk hk
theorem F44_eq{a:List (List Int)}(ha:LongL (LongL Long0) a){s:Int}(h0:0≤s)(h1:s≤1048576):∃z,F44 a s=some z∧(z < 0∨(0≤z∧z≤1048576∧a.length≤1048576∧∀r∈a,r.length≤1048576)):=by
 have hal:=ha.1;unfold F44;rw[chk_ok (by omega) (by omega),ob];by_cases h:s - (a.length:Int) < 0
 ·rw[if_pos h]; exact⟨_,rfl,.inl (by decide)⟩
 ·rw[if_neg h]
  obtain⟨t,g1,g2⟩:=sz_loop (l:=a) (B:=F44_1_B a) (D:=F44_1_D a) (fun r=> r.length≤1048576) (by omega) (fun i hi v v0 v1=> by
   unfold F44_1_B;obtain⟨z,k1,k2⟩:=F43_eq (ha.2 _ (List.getElem_mem hi)).1 v0 v1;rw[getI_nat hi,ob,k1,ob];rcases k2 with k2|⟨k2,k3,k4⟩
   ·rw[if_pos k2]; exact .inr rfl
   ·rw[if_neg (by omega)]; exact .inl ⟨z,rfl,k2,k3,k4⟩) (fun v=> .inl rfl) (fun i v=> rfl) (show 0≤s - (a.length:Int) by omega) (by omega)
  rw[g1,ob];rcases g2 with⟨z,rfl,q1,q2,q3⟩|rfl
  ·exact⟨z,rfl,.inr ⟨q1,q2,by omega,q3⟩⟩
  ·exact⟨_,rfl,.inl (by decide)⟩
theorem F11_eq{a:List (List (List Int))}(ha:LongL (LongL (LongL Long0)) a){s:Int}(h0:0≤s)(h1:s≤1048576):∃z,F11 a s=some z∧(z < 0∨(0≤z∧z≤1048576∧a.length≤1048576∧∀m∈a,m.length≤1048576∧∀r∈m,r.length≤1048576)):=by
 have hal:=ha.1;unfold F11;rw[chk_ok (by omega) (by omega),ob];by_cases h:s - (a.length:Int) < 0
 ·rw[if_pos h]; exact⟨_,rfl,.inl (by decide)⟩
 ·rw[if_neg h]
  obtain⟨t,g1,g2⟩:=sz_loop (l:=a) (B:=F11_1_B a) (D:=F11_1_D a) (fun m=> m.length≤1048576∧∀r∈m,r.length≤1048576) (by omega) (fun i hi v v0 v1=> by
   unfold F11_1_B;obtain⟨z,k1,k2⟩:=F44_eq (ha.2 _ (List.getElem_mem hi)) v0 v1;rw[getI_nat hi,ob,k1,ob];rcases k2 with k2|⟨k2,k3,k4⟩
   ·rw[if_pos k2]; exact .inr rfl
   ·rw[if_neg (by omega)]; exact .inl ⟨z,rfl,k2,k3,k4⟩) (fun v=> .inl rfl) (fun i v=> rfl) (show 0≤s - (a.length:Int) by omega) (by omega)
  rw[g1,ob];rcases g2 with⟨z,rfl,q1,q2,q3⟩|rfl
  ·exact⟨z,rfl,.inr ⟨q1,q2,by omega,q3⟩⟩
  ·exact⟨_,rfl,.inl (by decide)⟩
theorem F10_eq{x:GComplex}(hx:LongC x){s:Int}(h0:0≤s)(h1:s≤1048576):∃z,F10 x s=some z∧(z < 0∨(0≤z∧z≤1048576∧SmallC x)):=by
 unfold F10;obtain⟨z,k1,k2⟩:=F43_eq hx.d.1 h0 h1;rw[k1,ob];rcases k2 with k2|⟨k2,k3,k4⟩
 ·rw[if_pos k2]; exact⟨_,rfl,.inl (by decide)⟩
 rw[if_neg (by omega)];obtain⟨y,l1,l2⟩:=F11_eq hx.m k2 k3;rw[l1,ob];rcases l2 with l2|⟨l2,l3,l4,l5⟩
 ·rw[if_pos l2]; exact⟨_,rfl,.inl (by decide)⟩
 rw[if_neg (by omega)];exact⟨y,rfl,.inr ⟨l2,l3,⟨k4,l4,l5⟩⟩⟩
theorem to_loop{α:Type}{l:List α}{B:Int→List α→Option (List α⊕List α)}{D:Int→List α→Option (List α)}(hl:l.length≤1048576)
  (hB:∀ (i:Nat) (hi:i < l.length) (s:List α),s.length=l.length→B i s=some (.inl (s.set i l[i]))) (hD:∀i s,D i s=some s) {s:List α} (hs:s.length=l.length):forR 0 (l.length:Int) B D s=some l:=by
 have hlen:l.length < 4611686018427387904:=by omega
 obtain⟨t,h1,h2⟩:=forR_inv (B:=B) (D:=D) l.length rfl hlen (fun i s=> s.length=l.length∧∀k,k < i→s[k]? =l[k]?) (fun t=> t=l) (s:=s) ⟨hs,fun k hk=> by omega⟩ (by
  rintro i s hi ⟨p1,p2⟩;left;refine⟨_,hB i hi s p1,by rw[List.length_set]; exact p1,fun k hk=>?_⟩;rw[List.getElem?_set];by_cases e:i=k
  ·subst e; rw[if_pos rfl,if_pos (by omega)]; simp[hi]
  ·rw[if_neg e]; exact p2 k (by omega)) (by
  rintro s ⟨p1,p2⟩;refine⟨s,hD _ _,?_⟩;apply List.ext_getElem?;intro k;by_cases hk:k < l.length
  ·exact p2 k hk
  ·rw[List.getElem?_eq_none (by omega),List.getElem?_eq_none (by omega)])
 rw[h1,h2]
theorem F47_eq{l:List Int}(h:l.length≤1048576):F47 l=some l:=by
 unfold F47;rw[mkL_ok l.length rfl (by omega) (by omega),ob,to_loop (l:=l) (B:=F47_1_B l) (D:=F47_1_D l) h (fun i hi s hs=> by
  unfold F47_1_B;rw[getI_nat hi,ob,getI_nat (show i < s.length by omega),ob,setI_nat (by omega),ob]) (fun i s=> rfl) (List.length_replicate ..),ob]
theorem F48_eq{l:List (List Int)}(h:l.length≤1048576)(h2:∀r∈l,r.length≤1048576):F48 l=some l:=by
 unfold F48;rw[mkL_ok l.length rfl (by omega) (by omega),ob,to_loop (l:=l) (B:=F48_1_B l) (D:=F48_1_D l) h (fun i hi s hs=> by
  unfold F48_1_B;rw[getI_nat hi,ob,F47_eq (h2 _ (List.getElem_mem hi)),ob,getI_nat (show i < s.length by omega),ob,setI_nat (by omega),ob]) (fun i s=> rfl) (List.length_replicate ..),ob]
theorem F13_eq{l:List (List (List Int))}(h:l.length≤1048576)(h2:∀m∈l,m.length≤1048576∧∀r∈m,r.length≤1048576):F13 l=some l:=by
 unfold F13;rw[mkL_ok l.length rfl (by omega) (by omega),ob,to_loop (l:=l) (B:=F13_1_B l) (D:=F13_1_D l) h (fun i hi s hs=> by
  unfold F13_1_B;rw[getI_nat hi,ob,F48_eq (h2 _ (List.getElem_mem hi)).1 (h2 _ (List.getElem_mem hi)).2,ob,getI_nat (show i < s.length by omega),ob,setI_nat (by omega),ob]) (fun i s=> rfl) (List.length_replicate ..),ob]
theorem F12_eq{x:GComplex}(h:SmallC x):F12 x=some x:=by
 unfold F12;rw[F47_eq h.d,ob,F13_eq h.m h.r,ob]
theorem eq_loop{n:Nat}{B:Int→Unit→Option (Unit⊕(Unit⊕Bool))}{D:Int→Unit→Option (Unit⊕Bool)}(hn:n≤1048576)(hB:∀ (i:Nat) (s:Unit),i < n→B i s=some (.inl ()))(hD:∀i s,D i s=some (.inl ())):forR 0 (n:Int) B D ()=some (.inl ()):=by
 have hlen:n < 4611686018427387904:=by omega
 obtain⟨t,h1,h2⟩:=forR_inv (B:=B) (D:=D) n rfl hlen (fun _ _=> True) (fun t=> t= .inl ()) (s:=()) trivial (fun i s hi _=> .inl ⟨_,hB i s hi,trivial⟩) (fun s _=>⟨_,hD _ _,rfl⟩);rw[h1,h2]
theorem F30_same{a:List Int}(h:a.length≤1048576):F30 a a=some true:=by
 unfold F30;rw[if_pos rfl,eq_loop (B:=F30_1_B a a) (D:=F30_1_D a a) h (fun i s hi=> by unfold F30_1_B; rw[getI_nat hi,ob,ob,if_pos rfl]) (fun i s=> rfl),ob]
theorem F51_same{a:List (List Int)}(h:a.length≤1048576)(h2:∀r∈a,r.length≤1048576):F51 a a=some true:=by
 unfold F51;rw[if_pos rfl,eq_loop (B:=F51_1_B a a) (D:=F51_1_D a a) h (fun i s hi=> by unfold F51_1_B; rw[getI_nat hi,ob,ob,F30_same (h2 _ (List.getElem_mem hi)),ob,if_pos rfl]) (fun i s=> rfl),ob]
theorem F17_same{a:List (List (List Int))}(h:a.length≤1048576)(h2:∀m∈a,m.length≤1048576∧∀r∈m,r.length≤1048576):F17 a a=some true:=by
 unfold F17;rw[if_pos rfl,eq_loop (B:=F17_1_B a a) (D:=F17_1_D a a) h (fun i s hi=> by unfold F17_1_B; rw[getI_nat hi,ob,ob,F51_same (h2 _ (List.getElem_mem hi)).1 (h2 _ (List.getElem_mem hi)).2,ob,if_pos rfl]) (fun i s=> rfl),ob]
theorem F16_same{x:GComplex}(h:SmallC x):F16 x x=some true:=by
 unfold F16;rw[if_pos rfl,F30_same h.d,ob,if_pos rfl,F17_same h.m h.r,ob,if_pos rfl]
structure SmallT (ms:List (List (List Int))):Prop where
 m:ms.length≤1048576
 r:∀m∈ms,m.length≤1048576∧∀r∈m,r.length≤1048576
def TabM(x:GComplex)(ms:List (List (List Int)))(k:Nat):Prop:=TableOK x.Prime (x.Dims.getD (k+1) 0) (x.Dims.getD k 0) (ms.getD k [])
structure MapsOK (x:GComplex) (ms:List (List (List Int))):Prop where
 v:ValidC x
 l:ms.length=x.Maps.length
 t:∀k,k < ms.length→TabM x ms k
abbrev T3s:=List (List (List Int))
def tb(ms:T3s)(k:Nat):List (List Int):=ms.getD k []
structure Shp (s u:T3s):Prop where
 l:s.length=u.length
 t:∀k,k < u.length→(s.getD k []).length=(u.getD k []).length
 r:∀k,k < u.length→∀i,i < (u.getD k []).length→((s.getD k []).getD i []).length=((u.getD k []).getD i []).length
theorem Shp.refl(s:T3s):Shp s s:=⟨rfl,fun _ _=> rfl,fun _ _ _ _=> rfl⟩
theorem Shp.trans{a b c:T3s}(h:Shp a b)(k:Shp b c):Shp a c:=
 ⟨h.l.trans k.l,fun n hn=>(h.t n (by rw[k.l]; exact hn)).trans (k.t n hn),fun n hn i hi=>(h.r n (by rw[k.l]; exact hn) i (by rw[k.t n hn]; exact hi)).trans (k.r n hn i hi)⟩
theorem Shp.symm{a b:T3s}(h:Shp a b):Shp b a:=
 ⟨h.l.symm,fun n hn=>(h.t n (by rw[←h.l]; exact hn)).symm,fun n hn i hi=>(h.r n (by rw[←h.l]; exact hn) i (by rw[←h.t n (by rw[←h.l]; exact hn)]; exact hi)).symm⟩
theorem getD_ext{α:Type}{l l':List α}(d:α)(h:l.length=l'.length)(hv:∀k,k < l'.length→l.getD k d=l'.getD k d):l=l':=by
 apply List.ext_getElem h;intro k h1 h2;have:=hv k h2;simpa[h1,h2]using this
theorem Shp.eq{s t:T3s}(h:Shp s t)(hv:∀k i j,InT t k i j→numAt s k i j=numAt t k i j):s=t:=by
 refine getD_ext [] h.l fun k hk=> getD_ext [] (h.t k hk) fun i hi=> getD_ext 0 (h.r k hk i hi) fun j hj=> hv k i j ⟨hk,hi,hj⟩
def q1(p a b:Int):Int:=((a+b).tmod p+p).tmod p
def Rng(p:Int)(s:T3s):Prop:=∀k i j,InT s k i j→0≤numAt s k i j∧numAt s k i j < p
def AT(q:Int→Int→Int)(s0 ms:T3s)(D:Nat→Nat→Nat→Prop)(s:T3s):Prop:=
 Shp s s0∧∀k i j,InT s0 k i j→(D k i j→numAt s k i j=q (numAt s0 k i j) (numAt ms k i j))∧(¬D k i j→numAt s k i j=numAt s0 k i j)
theorem AT.imp{q:Int→Int→Int}{s0 ms:T3s}{D D':Nat→Nat→Nat→Prop}{s:T3s}(h:AT q s0 ms D s)(hd:∀k i j,InT s0 k i j→(D k i j↔D' k i j)):AT q s0 ms D' s:=
 ⟨h.1,fun k i j hin=>⟨fun d=>(h.2 k i j hin).1 ((hd k i j hin).2 d),fun d=>(h.2 k i j hin).2 fun x=> d ((hd k i j hin).1 x)⟩⟩
theorem AT.zero(q:Int→Int→Int)(s0 ms:T3s):AT q s0 ms (fun _ _ _=> False) s0:=⟨.refl _,fun k i j _=>⟨fun x=> x.elim,fun _=> rfl⟩⟩
theorem cpy_loop{α:Type}{l:List α}{B:Int→List α→Option (List α⊕List α)}{D:Int→List α→Option (List α)}(hl:l.length≤1048576)
  (hB:∀ (i:Nat) (hi:i < l.length) (s:List α),s.length=i→B i s=some (.inl (s++[l[i]]))) (hD:∀i s,D i s=some s):forR 0 (l.length:Int) B D []=some l:=by
 have hlen:l.length < 4611686018427387904:=by omega
 obtain⟨t,h1,h2⟩:=forR_inv (B:=B) (D:=D) l.length rfl hlen (fun i s=> s=l.take i) (fun t=> t=l) (s:=[]) (by simp) (by
  rintro i s hi rfl;left;refine⟨_,hB i hi _ (by simp; omega),?_⟩;rw[List.take_append_getElem]) (by
  rintro s rfl;exact⟨_,hD _ _,by simp⟩)
 rw[h1,h2]
theorem app_nil{b:Nat}{α:Type}{l:List α}(h:l.length*b≤1099511627776)(h2:l.length≤1099511627776):app b [] l=some l:=by
 rw[app_ok (by simpa using h) (by simpa using h2)]; rfl
theorem F94_eq{l:List Int}(h:l.length≤1048576):F94 l=some l:=by
 unfold F94; rw[app_nil (by omega) (by omega),ob]
theorem F96_eq{l:List Int}(h:l.length≤1048576):F96 l=some l:=by
 unfold F96; rw[app_nil (by omega) (by omega)]
theorem TabM.len{x:GComplex}{ms:T3s}{k:Nat}(h:TabM x ms k):((ms.getD k []).length:Int)=x.Dims.getD (k+1) 0:=h.1
theorem MapsOK.self{x:GComplex}(h:ValidC x):MapsOK x x.Maps:=⟨h,rfl,fun k hk=> h.tab k hk⟩
theorem MapsOK.rng{x:GComplex}{ms:T3s}(h:MapsOK x ms):Rng x.Prime ms:=by
 rintro k i j ⟨h1,h2,h3⟩;exact((h.t k h1).2 _ (getD_mem h2 [])).2 _ (getD_mem h3 0)
theorem MapsOK.shp{x:GComplex}{ms ns:T3s}(h:MapsOK x ms)(k:MapsOK x ns):Shp ms ns:=by
 have e:ms.length=ns.length:=h.l.trans k.l.symm;refine⟨e,fun n hn=>?_,fun n hn i hi=>?_⟩
 ·have a:=(h.t n (by omega)).1
  have b:=(k.t n hn).1;omega
 ·have a:=(h.t n (by omega)).1
  have b:=(k.t n hn).1;have c:=((h.t n (by omega)).2 _ (getD_mem (show i < (ms.getD n []).length by omega) [])).1;have d:=((k.t n hn).2 _ (getD_mem hi [])).1;omega
inductive Ch {α:Type} (R:α→Int→Int→Prop):List α→Int→Int→Prop
 |nil (k:Int):Ch R [] k k
 |cons {a:α} {l:List α} {k j m:Int}:R a k j→Ch R l j m→Ch R (a::l) k m
theorem Ch.snoc{α:Type}{R:α→Int→Int→Prop}{a:α}{j m:Int}(h:R a j m):∀ {l:List α} {k:Int},Ch R l k j→Ch R (l++[a]) k m
 |_,_,.nil _=> .cons h (.nil _)
 |_,_,.cons p q=> .cons p (Ch.snoc h q)
theorem take_set_app{α:Type}{l:List α}{i:Nat}(hi:i < l.length)(a:α):(l.set i a).take (i+1)=l.take i++[a]:=by
 rw[List.take_add_one,List.getElem?_set_self hi,List.take_set_of_le (Nat.le_refl _)]; rfl
theorem mark_loop{α:Type}{l:List α}{R:α→Int→Int→Prop}{M k:Int}{B:Int→List α×Int→Option ((List α×Int)⊕(List α×Int))}{D:Int→List α×Int→Option (List α×Int)}(hl:l.length≤1048576)(hM:0≤M)
  (hB:∀ (i:Nat) (hi:i < l.length) (s:List α) (j:Int),s.length=l.length→s[i]? =some l[i]→k≤j→j≤k+i*M→∃a m,B i (s,j)=some (.inl (s.set i a,m))∧R a j m∧j≤m∧m≤j+M) (hD:∀i s,D i s=some s):
  ∃r j,forR 0 (l.length:Int) B D (l,k)=some (r,j)∧Ch R r k j∧k≤j∧j≤k+l.length*M∧r.length=l.length:=by
 have hlen:l.length < 4611686018427387904:=by omega
 obtain⟨t,h1,h2,h3,h4,h5⟩:=forR_inv (B:=B) (D:=D) l.length rfl hlen (fun i s=> s.1.length=l.length∧(∀n,i≤n→s.1[n]? =l[n]?)∧Ch R (s.1.take i) k s.2∧k≤s.2∧s.2≤k+i*M) (fun t=> Ch R t.1 k t.2∧k≤t.2∧t.2≤k+l.length*M∧t.1.length=l.length) (s:=(l,k)) ⟨rfl,fun _ _=> rfl,by simpa using Ch.nil k,Int.le_refl _,by simp⟩ (by
  rintro i ⟨s,j⟩ hi ⟨p1,p2,p3,p4,p5⟩;simp only at p1 p2 p3 p4 p5;left;obtain⟨a,m,q1,q2,q3,q4⟩:=hB i hi s j p1 (by rw[p2 i (Nat.le_refl _)]; simp[hi]) p4 p5;refine⟨_,q1,by simp[p1],fun n hn=>?_,?_,by simp only; omega,?_⟩
  ·simp only
   rw[List.getElem?_set_ne (by omega)]; exact p2 n (by omega)
  ·simp only
   rw[take_set_app (by omega)]; exact p3.snoc q2
  ·simp only
   rw[Int.natCast_add,Int.add_mul]; omega) (by
  rintro⟨s,j⟩ ⟨p1,p2,p3,p4,p5⟩;simp only at p1 p2 p3 p4 p5;refine⟨_,hD _ _,?_,p4,p5,p1⟩;rw[←p1,List.take_length]at p3;exact p3)
 exact⟨t.1,t.2,h1,h2,h3,h4,h5⟩
theorem held_loop{α:Type}{l:List α}{R:α→Int→Int→Prop}{k m:Int}{B:Int→Int→Option (Int⊕(Int⊕Int))}{D:Int→Int→Option (Int⊕Int)}(hl:l.length≤1048576)(hc:Ch R l k m)
  (hB:∀ (i:Nat) (hi:i < l.length) (s j:Int),k≤s→R l[i] s j→B i s=some (.inl j)) (hR:∀a s j,R a s j→s≤j) (hD:∀i s,D i s=some (.inl s)):forR 0 (l.length:Int) B D k=some (.inl m):=by
 have hlen:l.length < 4611686018427387904:=by omega
 obtain⟨t,h1,h2⟩:=forR_inv (B:=B) (D:=D) l.length rfl hlen (fun i s=> k≤s∧Ch R (l.drop i) s m) (fun t=> t= .inl m) (s:=k) ⟨Int.le_refl _,hc⟩ (by
  rintro i s hi ⟨p0,p⟩;left;rw[List.drop_eq_getElem_cons hi]at p;cases p with
  |cons p q=>
   rename_i j;exact⟨j,hB i hi s j p0 p,by have:=hR _ _ _ p; omega,q⟩) (by
  rintro s ⟨_,p⟩;rw[List.drop_length]at p;cases p;exact⟨_,hD _ _,rfl⟩)
 rw[h1,h2]
def Mk0(n:Int)(k m:Int):Prop:=n=k∧m=k+1
def Mk1(l:List Int)(k m:Int):Prop:=l.length≤1048576∧k≤m∧m≤k+1048576∧Ch Mk0 l k m
def Mk2(l:List (List Int))(k m:Int):Prop:=l.length≤1048576∧k≤m∧m≤k+1099511627776∧Ch Mk1 l k m
def Mk3(l:List (List (List Int)))(k m:Int):Prop:=l.length≤1048576∧k≤m∧m≤k+1152921504606846976∧Ch Mk2 l k m
theorem F31_mk{l:List Int}(h:l.length≤1048576){k:Int}(h0:0≤k)(h1:k≤9223372036850000000):∃r m,F31 l k=some (r,m)∧Mk1 r k m:=by
 obtain⟨r,j,g1,g2,g3,g4,g5⟩:=mark_loop (R:=Mk0) (k:=k) (B:=F31_1_B) (D:=F31_1_D) (M:=1) h (by decide) (by
  intro i hi s j e1 e2 e3 e4;unfold F31_1_B;simp only;rw[setI_nat (by omega),ob,chk_ok (by omega) (by omega),ob];exact⟨_,_,rfl,⟨rfl,rfl⟩,by omega,by omega⟩) (fun i s=> rfl)
 exact⟨r,j,g1,by omega,g3,by omega,g2⟩
theorem F52_mk{l:List (List Int)}(h:l.length≤1048576)(h2:∀r∈l,r.length≤1048576){k:Int}(h0:0≤k)(h1:k≤9200000000000000000):∃r m,F52 l k=some (r,m)∧Mk2 r k m:=by
 obtain⟨r,j,g1,g2,g3,g4,g5⟩:=mark_loop (R:=Mk1) (k:=k) (B:=F52_1_B) (D:=F52_1_D) (M:=1048576) h (by decide) (by
  intro i hi s j e1 e2 e3 e4;unfold F52_1_B;simp only;obtain⟨r,m,q1,q2⟩:=F31_mk (h2 _ (List.getElem_mem hi)) (k:=j) (by omega) (by omega);have e5:getI s (i:Int)=some l[i]:=by unfold getI; rw[if_pos (by omega),Int.toNat_natCast]; exact e2
  rw[e5,ob,q1,ob,setI_nat (by omega),ob];exact⟨_,_,rfl,q2,q2.2.1,q2.2.2.1⟩) (fun i s=> rfl)
 exact⟨r,j,g1,by omega,g3,by omega,g2⟩
theorem F21_mk{l:List (List (List Int))}(h:l.length≤1048576)(h2:∀m∈l,m.length≤1048576∧∀r∈m,r.length≤1048576){k:Int}(h0:0≤k)(h1:k≤8000000000000000000):∃r m,F21 l k=some (r,m)∧Mk3 r k m:=by
 obtain⟨r,j,g1,g2,g3,g4,g5⟩:=mark_loop (R:=Mk2) (k:=k) (B:=F21_1_B) (D:=F21_1_D) (M:=1099511627776) h (by decide) (by
  intro i hi s j e1 e2 e3 e4;unfold F21_1_B;simp only;have hh:=h2 _ (List.getElem_mem hi);obtain⟨r,m,q1,q2⟩:=F52_mk hh.1 hh.2 (k:=j) (by omega) (by omega);have e5:getI s (i:Int)=some l[i]:=by unfold getI; rw[if_pos (by omega),Int.toNat_natCast]; exact e2
  rw[e5,ob,q1,ob,setI_nat (by omega),ob];exact⟨_,_,rfl,q2,q2.2.1,q2.2.2.1⟩) (fun i s=> rfl)
 exact⟨r,j,g1,by omega,g3,by omega,g2⟩
theorem F32_held{l:List Int}{k m:Int}(h:Mk1 l k m)(h0:0≤k)(h1:k≤4611686018427387904):F32 l k=some m:=by
 obtain⟨hl,h2,h3,hc⟩:=h;unfold F32;have:=held_loop (B:=F32_1_B l) (D:=F32_1_D l) (k:=k) (m:=m) hl (R:=fun a s j=> Mk0 a s j∧j≤m) (by
  clear h0 h1 h2 h3 hl;induction hc with
  |nil k=> exact .nil k
  |cons p q ih=>
   refine .cons ⟨p,?_⟩ ih;clear ih p;induction q with
   |nil=> exact Int.le_refl _
   |cons p q ih=> obtain⟨rfl,rfl⟩:=p; omega) (by
  rintro i hi s j hs ⟨⟨p,rfl⟩,hj⟩;unfold F32_1_B;rw[getI_nat hi,ob,if_pos p,chk_ok (by omega) (by omega),ob]) (fun a s j p=> by obtain⟨⟨_,rfl⟩,_⟩:=p; omega) (fun i s=> rfl)
 rw[this,ob]
theorem Ch.le{α:Type}{R:α→Int→Int→Prop}(hR:∀a s j,R a s j→s≤j):∀ {l:List α} {k m:Int},Ch R l k m→k≤m
 |_,_,_,.nil _=> Int.le_refl _
 |_,_,_,.cons p q=> Int.le_trans (hR _ _ _ p) (Ch.le hR q)
theorem Ch.upto{α:Type}{R:α→Int→Int→Prop}(hR:∀a s j,R a s j→s≤j):∀ {l:List α} {k m:Int},Ch R l k m→Ch (fun a s j=> R a s j∧j≤m) l k m
 |_,_,_,.nil k=> .nil k
 |_,_,_,.cons p q=> .cons ⟨p,Ch.le hR q⟩ (Ch.upto hR q)
theorem F59_held{l:List (List Int)}{k m:Int}(h:Mk2 l k m)(h0:0≤k)(h1:m≤4611686018427387904):F59 l k=some m:=by
 obtain⟨hl,h2,h3,hc⟩:=h;unfold F59;rw[held_loop (B:=F59_1_B l) (D:=F59_1_D l) (k:=k) (m:=m) hl (hc.upto fun a s j p=> p.2.1) (by
  rintro i hi s j hs ⟨p,hj⟩;unfold F59_1_B;have p2:=p.2.1;rw[getI_nat hi,ob,F32_held p (by omega) (by omega),ob,if_neg (by omega)]) (fun a s j p=> p.1.2.1) (fun i s=> rfl),ob]
theorem F53_held{l:List (List (List Int))}{k m:Int}(h:Mk3 l k m)(h0:0≤k)(h1:m≤4611686018427387904):F53 l k=some m:=by
 obtain⟨hl,h2,h3,hc⟩:=h;unfold F53;rw[held_loop (B:=F53_1_B l) (D:=F53_1_D l) (k:=k) (m:=m) hl (hc.upto fun a s j p=> p.2.1) (by
  rintro i hi s j hs ⟨p,hj⟩;unfold F53_1_B;have p2:=p.2.1;rw[getI_nat hi,ob,F59_held p (by omega) (by omega),ob,if_neg (by omega)]) (fun a s j p=> p.1.2.1) (fun i s=> rfl),ob]
structure MkC (y:GComplex) (k m:Int):Prop where
 ex:∃j,Mk1 y.Dims k j∧Mk3 y.Maps j m
theorem FM20_m{x:GComplex}(h:SmallC x){k:Int}(h0:0≤k)(h1:k≤1200000000000000000):∃y m,FM20 x k=some (y,m)∧k≤m∧m≤k+1152921504608000000∧MkC y k m:=by
 obtain⟨d,j,g1,g2⟩:=F31_mk h.d (k:=k) h0 (by omega);have b2:=g2.2.1;have b3:=g2.2.2.1;obtain⟨ms,m,k1,k2⟩:=F21_mk h.m h.r (k:=j) (by omega) (by omega);have b4:=k2.2.1;have b5:=k2.2.2.1;refine⟨⟨x.Prime,d,ms⟩,m,?_,by omega,by omega,⟨j,g2,k2⟩⟩;unfold FM20 F20;rw[g1,ob];simp only;rw[k1,ob,ob]
theorem SmallC.zero:SmallC (⟨0,[],[]⟩:GComplex):=⟨by simp,by simp,by simp⟩
theorem SmallF.zero:SmallF (⟨⟨0,[],[]⟩,[]⟩:GFiltered):=⟨.zero,by simp,by simp⟩
theorem tmod_pos{a p:Int}(h:0≤a):a.tmod p=a% p:=Int.tmod_eq_emod_of_nonneg h
theorem tmod_cg{a p:Int}:Cg p (a.tmod p) a:=⟨-(a.tdiv p),by have:=Int.tmod_add_mul_tdiv a p; grind⟩
theorem F127_eq{p x:Int}(hp:2≤p∧p≤7):F127 p x=some (x% p):=by
 have h1:=Int.tmod_lt_of_pos x (show 0 < p by omega);have h2: -p < x.tmod p:=by
  have h3:=Int.tmod_lt_of_pos (-x) (show 0 < p by omega);rw[Int.neg_tmod]at h3; omega
 unfold F127;rw[remI_ok (by omega),ob,chk_ok (by omega) (by omega),ob,remI_ok (by omega),ob,tmod_pos (by omega)]
 congr 1
 exact Cg.emod ((tmod_cg.add (Cg.refl p p)).trans ⟨1,by grind⟩)
theorem idx_loop{α:Type}{l:List α}(g:Nat→α→α){B:Int→List α→Option (List α⊕List α)}{D:Int→List α→Option (List α)}(hl:l.length≤1048576)
  (hB:∀ (i:Nat) (hi:i < l.length) (s:List α),s.length=l.length→(∀k,s[k]? =if k < i then(l[k]?).map (g k)else l[k]?)→B i s=some (.inl (s.set i (g i l[i])))) (hD:∀i s,D i s=some s):forR 0 (l.length:Int) B D l=some (l.mapIdx g):=by
 obtain⟨t,h1,h2⟩:=forR_inv (B:=B) (D:=D) l.length rfl (by omega) (fun i s=> s.length=l.length∧∀k,s[k]? =if k < i then(l[k]?).map (g k)else l[k]?) (fun t=> t=l.mapIdx g) (s:=l) ⟨rfl,fun k=> by simp⟩ (by
  rintro i s hi ⟨p1,p2⟩;left;refine⟨_,hB i hi s p1 p2,by rw[List.length_set]; exact p1,fun k=>?_⟩;rw[List.getElem?_set];by_cases e:i=k
  ·subst e; rw[if_pos rfl,if_pos (by omega),if_pos (by omega)]; simp[hi]
  ·rw[if_neg e,p2 k]
   by_cases q:k < i
   ·rw[if_pos q,if_pos (by omega)]
   ·rw[if_neg q,if_neg (by omega)]) (by
  rintro s ⟨p1,p2⟩;refine⟨s,hD _ _,?_⟩;apply List.ext_getElem?;intro k;rw[p2 k,List.getElem?_mapIdx];by_cases q:k < l.length
  ·rw[if_pos q]
  ·rw[if_neg q,List.getElem?_eq_none (by omega)]; rfl)
 rw[h1,h2]
theorem nth_get{v:List Int}{j:Nat}(h:j < v.length):getI v (j:Int)=some (nth v j):=by rw[getI_nat h,nth_lt h]
theorem rng_mul{p a b:Int}(hp:2≤p∧p≤7)(ha:0≤a∧a < p)(hb:0≤b∧b < p):0≤a*b∧a*b≤49:=by
 refine⟨Int.mul_nonneg ha.1 hb.1,?_⟩;have:=Int.mul_le_mul (show a≤7 by omega) (show b≤7 by omega) hb.1 (by decide);omega
theorem scl_loop{p k:Int}{w:Nat}(hp:2≤p∧p≤7)(hk:0≤k∧k < p){v:List Int}(hv:VecOK p w v)(hw:w≤1048576){B:Int→List Int→Option (List Int⊕List Int)}{D:Int→List Int→Option (List Int)}
  (hB:∀i row,B i row=(getI row i).bind fun x=>(chk (x*k)).bind fun m=>(remI m p).bind fun z=>(setI row i z).bind fun r=> some (.inl r)) (hD:∀i s,D i s=some s):forR 0 (v.length:Int) B D v=some (scl p v k):=by
 have hl:=hv.len;rw[idx_loop (fun _ x=> x*k% p) (by omega) (fun i hi s hs hk'=>?_) hD]
 ·congr 1
  apply List.ext_getElem <;> simp[scl]
 ·have h1:s[i]? =v[i]?:=by rw[hk' i,if_neg (Nat.lt_irrefl _)]
  have h2:s[i]'(by omega)=v[i]:=by
   have:=h1;rw[List.getElem?_eq_getElem (by omega),List.getElem?_eq_getElem hi]at this;exact Option.some.inj this
  have hr:=hv.rng i (by omega);rw[nth_lt hi]at hr;have hm:=rng_mul hp hr hk;rw[hB,getI_nat (show i < s.length by omega),ob,h2,chk_ok (by omega) (by omega),ob,remI_ok (by omega),ob,setI_nat (by omega),ob,tmod_pos hm.1]
theorem F136_eq{p k:Int}{w:Nat}(hp:2≤p∧p≤7)(hk:0≤k∧k < p){v u:List Int}(hv:VecOK p w v)(hu:VecOK p w u)(hw:w≤1048576):F136 p v u k=some (subv p v u k):=by
 have hl:=hv.len;have hul:=hu.len;have hsl:(subv p v u k).length=w:=by simp[subv,hl,hul]
 unfold F136;obtain⟨t,g1,g2⟩:=forR_inv (B:=F136_1_B p v u k) (D:=F136_1_D p v u k) v.length rfl (by omega) (fun i s=> s=(subv p v u k).take i) (fun t=> t=subv p v u k) (s:=[]) (by simp) (by
  rintro i s hi rfl;left;have hiw:i < w:=by omega
  have h1:=hv.rng i hiw;have h2:=hu.rng i hiw;have hm:=rng_mul hp hk h2;refine⟨(subv p v u k).take (i+1),?_,rfl⟩;unfold F136_1_B;rw[nth_get hi,ob,nth_get (by omega),ob,chk_ok (by omega) (by omega),ob,chk_ok (by omega) (by omega),ob,F127_eq hp,ob,app_ok (by simp; omega) (by simp; omega),ob]
  congr 2
  rw[←List.take_append_getElem (show i < (subv p v u k).length by omega)]
  congr 2
  have:=nth_sub (p:=p) (k:=k) hl hul hiw;rw[nth_lt (by omega)]at this;exact this.symm) (by
  rintro s rfl;refine⟨_,rfl,?_⟩;rw[List.take_of_length_le (by omega)])
 rw[g1,ob,g2]
theorem F81_ld{r:List Int}(hl:r.length≤1048576):F81 r=some (if ld r < r.length then(ld r:Int)else -1):=by
 unfold F81;obtain⟨t,g1,g2⟩:=forR_inv (B:=F81_1_B r) (D:=F81_1_D r) r.length rfl (by omega) (fun i _=> i≤ld r) (fun t=>(t= .inl ()∧r.length≤ld r)∨(t= .inr (ld r:Int)∧ld r < r.length)) (s:=()) (Nat.zero_le _) (by
  rintro i _ hi hI;unfold F81_1_B;rw[nth_get hi,ob];by_cases h:nth r i=0
  ·left
   rw[if_pos h];refine⟨(),rfl,?_⟩;rcases Nat.lt_or_ge i (ld r)with q|q
   ·exact q
   ·have:i=ld r:=by omega
    subst this;exact absurd h (ld_ne hi)
  ·right
   rw[if_neg h];refine⟨_,rfl,.inr ?_⟩;have:ld r=i:=by
    rcases Nat.lt_or_ge i (ld r)with q|q
    ·exact absurd (ld_zero q) h
    ·omega
   rw[this]; exact⟨rfl,hi⟩) (by
  rintro _ hI;exact⟨_,rfl,.inl ⟨rfl,hI⟩⟩)
 rw[g1,ob];rcases g2 with⟨rfl,h⟩|⟨rfl,h⟩
 ·rw[if_neg (by omega)]
 ·rw[if_pos h]
theorem inv_ex{p x:Int}(hp:IsP p)(h1:1≤x)(h2:x < p):∃m,1≤m∧m < p∧m*x% p=1:=by
 unfold IsP at hp;rcases hp with rfl|rfl|rfl|rfl
 ·obtain rfl:x=1:=by omega
  exact⟨1,by decide⟩
 ·have:x=1∨x=2:=by omega
  rcases this with rfl|rfl
  ·exact⟨1,by decide⟩
  ·exact⟨2,by decide⟩
 ·have:x=1∨x=2∨x=3∨x=4:=by omega
  rcases this with rfl|rfl|rfl|rfl
  ·exact⟨1,by decide⟩
  ·exact⟨3,by decide⟩
  ·exact⟨2,by decide⟩
  ·exact⟨4,by decide⟩
 ·have:x=1∨x=2∨x=3∨x=4∨x=5∨x=6:=by omega
  rcases this with rfl|rfl|rfl|rfl|rfl|rfl
  ·exact⟨1,by decide⟩
  ·exact⟨4,by decide⟩
  ·exact⟨5,by decide⟩
  ·exact⟨2,by decide⟩
  ·exact⟨3,by decide⟩
  ·exact⟨6,by decide⟩
theorem cg_one{p a:Int}(hp:2≤p∧p≤7)(h:a% p=1):Cg p a 1:=by
 have:=(Cg.mod p a).symm
 rwa[h]at this
theorem F135_eq{p x:Int}(hp:IsP p)(h1:1≤x)(h2:x < p):∃k,F135 p x=some k∧0≤k∧k < p∧Cg p (x*k) 1:=by
 have hr:=hp.range;obtain⟨m,m1,m2,m3⟩:=inv_ex hp h1 h2;obtain⟨n,hn⟩:∃n:Nat,p=n:=⟨p.toNat,by omega⟩;obtain⟨t,g1,k,rfl,g2,g3,g4⟩:=forR_from (B:=F135_1_B p x) (D:=F135_1_D p x) (lo:=1) (hi:=p) 1 n rfl hn (by omega) (by omega) (fun i _=> 1≤i∧∀j:Int,1≤j→j < i→j*x% p≠1) (fun t=>∃k:Int,t= .inr k∧0≤k∧k < p∧Cg p (x*k) 1) (s:=()) ⟨Nat.le_refl _,fun j a b=> by omega⟩ (by
  rintro i _ hi ⟨h0,hI⟩;unfold F135_1_B;have hm:=rng_mul hr (show 0≤(i:Int)∧(i:Int) < p by omega) (show 0≤x∧x < p by omega);rw[F127_eq hr,ob,Int.emod_eq_of_lt (show 0≤x by omega) h2,chk_ok (by omega) (by omega),ob,remI_ok (by omega),ob,tmod_pos hm.1];by_cases h:(i:Int)*x% p=1
  ·right
   rw[if_pos h];exact⟨_,rfl,_,rfl,by omega,by omega,by rw[Int.mul_comm]; exact cg_one hr h⟩
  ·left
   rw[if_neg h];refine⟨(),rfl,by omega,fun j a b=>?_⟩;by_cases e:j=i
   ·subst e; exact h
   ·exact hI j a (by omega)) (by
  rintro _ ⟨h0,hI⟩;exact absurd m3 (hI m m1 (by omega)))
 unfold F135;rw[g1,ob];exact⟨k,rfl,g2,g3,g4⟩
theorem F138_eq{p x:Int}(hp:IsP p)(h1:1≤x)(h2:x < p):∃k,F138 p x=some k∧0≤k∧k < p∧Cg p (x*k) 1:=by
 have hr:=hp.range;obtain⟨m,m1,m2,m3⟩:=inv_ex hp h1 h2;obtain⟨t,g1,g2,g3,g4⟩:=loopW_inv (S:=F138_1_S p x) (fun v=>(m - v).toNat) (fun v=> 1≤v∧v≤m) (fun t=> 0≤t∧t < p∧Cg p (x*t) 1) (s:=1) ⟨by decide,m1⟩ (by
  rintro v ⟨v1,v2⟩;unfold F138_1_S;have hm:=rng_mul hr (show 0≤v∧v < p by omega) (show 0≤x∧x < p by omega);rw[chk_ok (by omega) (by omega),ob,remI_ok (by omega),ob,tmod_pos hm.1];by_cases h:v*x% p=1
  ·right
   rw[if_pos h];exact⟨_,rfl,by omega,by omega,by rw[Int.mul_comm]; exact cg_one hr h⟩
  ·left
   have hne:v≠m:=fun e=> by rw[e]at h; exact h m3
   rw[if_neg h,chk_ok (by omega) (by omega),ob];exact⟨_,rfl,⟨by omega,by omega⟩,by omega⟩)
 unfold F138;rw[g1,ob];exact⟨t,rfl,g2,g3,g4⟩
theorem F139_eq{p k:Int}{w:Nat}(hp:2≤p∧p≤7)(hk:0≤k∧k < p){r o:List Int}(hr:VecOK p w r)(ho:VecOK p w o)(hw:w≤1048576):F139 r o p k=some (subv p r o k):=by
 have hl:=hr.len;have hol:=ho.len;unfold F139;rw[show(o.length:Int)=(r.length:Int) by omega,idx_loop (l:=r) (B:=F139_1_B o p k) (D:=F139_1_D) (fun i x=>(x - k*nth o i)% p) (by omega) (fun i hi s hs hk'=>?_) (fun i s=> rfl)]
 ·congr 1
  have hsl:(subv p r o k).length=w:=by simp[subv,hl,hol]
  apply List.ext_getElem (by simp[hl,hsl]);intro i h1 h2;have hi:i < w:=by omega
  have:=nth_sub (p:=p) (k:=k) hl hol hi;rw[nth_lt h2,nth_lt (show i < r.length by omega)]at this;rw[this]; simp
 ·have h1:s[i]? =r[i]?:=by rw[hk' i,if_neg (Nat.lt_irrefl _)]
  have h2:s[i]'(by omega)=r[i]:=by
   have:=h1;rw[List.getElem?_eq_getElem (by omega),List.getElem?_eq_getElem hi]at this;exact Option.some.inj this
  have a1:=hr.rng i (by omega);rw[nth_lt hi]at a1;have a2:=ho.rng i (by omega);have hm:0≤(p - k)*nth o i∧(p - k)*nth o i≤49:=by
   refine⟨Int.mul_nonneg (by omega) a2.1,?_⟩;have:=Int.mul_le_mul (show p - k≤7 by omega) (show nth o i≤7 by omega) a2.1 (by decide);omega
  unfold F139_1_B;rw[nth_get (by omega),ob,getI_nat (show i < s.length by omega),ob,h2,chk_ok (by omega) (by omega),ob,chk_ok (by omega) (by omega),ob,chk_ok (by omega) (by omega),ob,remI_ok (by omega),ob,setI_nat (by omega),ob,tmod_pos (by omega)]
  congr 3
  exact Cg.emod ⟨nth o i,by grind⟩
theorem F134_eq{p:Int}{w:Nat}(hp:2≤p∧p≤7){R:List (List Int)}(hR:Red p w R){v:List Int}(hv:VecOK p w v)(hw:w≤1048576)(hn:R.length≤1048576):F134 p R v=some (rest p R v):=by
 have hp0:0 < p:=by omega
 unfold F134;rw[F94_eq (by rw[hv.len]; exact hw),ob];have key:∀i,i≤R.length→VecOK p w (rest p (R.take i) v):=fun i _=> rest_ok hp0 (fun r hr=> hR.ok r (List.mem_of_mem_take hr)) hv;obtain⟨t,g1,g2⟩:=forR_inv (B:=F134_1_B p R) (D:=F134_1_D p R) R.length rfl (by omega) (fun i s=> s=rest p (R.take i) v) (fun t=> t=rest p R v) (s:=v) rfl (by
  rintro i s hi rfl;left;refine⟨_,?_,rfl⟩;have hk:=key i (by omega);have hm:=List.getElem_mem hi;have hok:=hR.ok _ hm;have hone:=hR.one _ hm;unfold F134_1_B;rw[getI_nat hi,ob,F81_ld (by rw[hok.len]; exact hw),if_pos (by rw[hok.len]; exact hone.1),ob,nth_get (by rw[hk.len]; exact hone.1),ob,F136_eq hp (hk.rng _ hone.1) hk hok hw,ob]
  congr 2
  rw[←List.take_append_getElem hi];unfold rest;rw[List.foldl_append]; rfl) (by
  rintro s rfl;exact⟨_,rfl,by rw[List.take_length]⟩)
 rw[g1,ob,g2]
theorem ins_cons{p:Int}{own:List Int}{a:Nat}{o:List Int}{out:List (List Int)}:ins p own a (o::out)=if a < ld o then own::insF p own a o::out.map (insF p own a)else insF p own a o::ins p own a out:=rfl
theorem F131_3_eq{p:Int}{w a:Nat}(hp:2≤p∧p≤7){out:List (List Int)}{own:List Int}(hR:Red p w out)(n:New p w out own a)(hw:w≤1048576)(hn:out.length≤1000000):
  ∃nx put,forR 0 (out.length:Int) (F131_3_B p out own a) F131_3_D ([],false)=some (nx,put)∧(if put=true then nx else nx++[own])=ins p own a out∧nx.length≤2000000:=by
 obtain⟨t,g1,g2,g3⟩:=forR_inv (B:=F131_3_B p out own a) (D:=F131_3_D) out.length rfl (by omega) (fun i s=> s.1.length≤2*i∧(s.2=true→s.1++(out.drop i).map (insF p own a)=ins p own a out)∧(s.2=false→s.1++ins p own a (out.drop i)=ins p own a out))
  (fun t=>(if t.2=true then t.1 else t.1++[own])=ins p own a out∧t.1.length≤2000000) (s:=([],false)) ⟨by simp,by simp,by simp⟩ (by
  rintro i ⟨nx,put⟩ hi ⟨p1,p2,p3⟩;simp only at p1 p2 p3;left;have hm:=List.getElem_mem hi;have hok:=hR.ok _ hm;have hone:=hR.one _ hm;have hr:=hok.rng a n.lt;have hq:F136 p out[i] own (nth out[i] a)=some (insF p own a out[i]):=F136_eq hp hr hok n.ok hw;rw[List.drop_eq_getElem_cons hi]at p2 p3;unfold F131_3_B F131_3_C;simp only;cases put with
  |true=>
   have e:=p2 rfl;rw[if_pos rfl,ob,if_neg Bool.false_ne_true,ob,getI_nat hi,ob,nth_get (by rw[hok.len]; exact n.lt),ob,hq,ob,app_ok (by simp; omega) (by simp; omega),ob];exact⟨_,rfl,by simp; omega,fun _=> by rw[←e]; simp only[List.map_cons,List.append_assoc,List.cons_append,List.nil_append],fun h=> by cases h⟩
  |false=>
   have e:=p3 rfl;rw[if_neg Bool.false_ne_true,getI_nat hi,ob,F81_ld (by rw[hok.len]; exact hw),if_pos (by rw[hok.len]; exact hone.1),ob,ob];by_cases h:a < ld out[i]
   ·have hd:decide ((a:Int) < (ld out[i]:Int))=true:=by simpa using h
    rw[ins_cons,if_pos h]at e;rw[hd,if_pos rfl,app_ok (by simp; omega) (by simp; omega),ob,ob,ob,nth_get (by rw[hok.len]; exact n.lt),ob,hq,ob,app_ok (by simp; omega) (by simp; omega),ob];exact⟨_,rfl,by simp; omega,fun _=> by rw[←e]; simp only[List.map_cons,List.append_assoc,List.cons_append,List.nil_append],fun h=> by cases h⟩
   ·have hd:decide ((a:Int) < (ld out[i]:Int))=false:=by simpa using h
    rw[ins_cons,if_neg h]at e;rw[hd,if_neg Bool.false_ne_true,ob,ob,nth_get (by rw[hok.len]; exact n.lt),ob,hq,ob,app_ok (by simp; omega) (by simp; omega),ob];exact⟨_,rfl,by simp; omega,(fun h=> by cases h),fun _=> by rw[←e]; simp only[List.append_assoc,List.cons_append,List.nil_append]⟩) (by
  rintro⟨nx,put⟩ ⟨p1,p2,p3⟩;simp only at p1 p2 p3;refine⟨_,rfl,?_,by simp only; omega⟩;rw[List.drop_length]at p2 p3;cases put with
  |true=> simpa using p2 rfl
  |false=> simpa[ins]using p3 rfl)
 exact⟨t.1,t.2,g1,g2,g3⟩
theorem F131_ech{p:Int}{w:Nat}(hp:IsP p){rows:List (List Int)}(hr:Rows p w rows)(hw:w≤1048576)(hn:rows.length≤1000000):∃out,F131 p rows=some out∧EchOf p w rows out:=by
 have hpr:=hp.range;have hp1:1 < p:=by omega
 obtain⟨t,g1,g2,g3⟩:=forR_inv (B:=F131_1_B p rows) (D:=F131_1_D) rows.length rfl (by omega) (fun i s=> EchOf p w (rows.take i) s∧s.length≤i) (fun t=> EchOf p w rows t∧t.length≤rows.length) (s:=[]) ⟨.nil p w,Nat.le_refl _⟩ (by
  rintro i out hi ⟨p1,p2⟩;left;have hrow:=hr _ (List.getElem_mem hi);have hrt:Rows p w (rows.take i):=fun r h=> hr r (List.mem_of_mem_take h);have hrest:=rest_ok (show 0 < p by omega) p1.red.ok hrow;have hl:¬(ld (rest p out rows[i]) < w)∨ld (rest p out rows[i]) < w:=by omega
  unfold F131_1_B;rw[getI_nat hi,ob,F134_eq hpr p1.red hrow hw (by omega),ob,F81_ld (by rw[hrest.len]; exact hw),ob,hrest.len];rcases hl with hl|hl
  ·rw[if_neg hl,if_pos (by decide)]
   refine⟨out,rfl,?_,by omega⟩;rw[←List.take_append_getElem hi];exact p1.skip hp1 hrt hrow fun j hj=> ld_zero (by omega)
  ·rw[if_pos hl,if_neg (by omega)]
   have hne:=ld_ne (r:=rest p out rows[i]) (by rw[hrest.len]; exact hl);have hrg:=hrest.rng _ hl;obtain⟨k,k1,k2,k3,k4⟩:=F135_eq hp (x:=nth (rest p out rows[i]) (ld (rest p out rows[i]))) (by omega) hrg.2;have n:=p1.new hp1 hrow hl (fun j hj=> ld_zero hj) k4;obtain⟨nx,put,q1,q2,q3⟩:=F131_3_eq hpr p1.red n hw (by omega);have hlen:((rest p out rows[i]).length:Int)=(w:Int):=by rw[hrest.len]
   have hsc:=scl_loop hpr ⟨k2,k3⟩ hrest hw (B:=F131_2_B p k) (D:=F131_2_D) (fun i row=> rfl) (fun i s=> rfl);have hput:=p1.put hp1 hrt hrow hl (fun j hj=> ld_zero hj) k4;rw[List.take_append_getElem hi]at hput;rw[nth_get (by rw[hrest.len]; exact hl),ob,k1,ob,←hlen,hsc,ob,q1,ob];simp only;cases put with
   |true=>
    rw[if_pos rfl]at q2 ⊢;rw[q2];exact⟨_,rfl,hput,by rw[ins_len]; omega⟩
   |false=>
    rw[if_neg Bool.false_ne_true]at q2 ⊢;rw[app_ok (by simp; omega) (by simp; omega),ob,q2];exact⟨_,rfl,hput,by rw[ins_len]; omega⟩) (by
  rintro out ⟨p1,p2⟩;rw[List.take_length]at p1;exact⟨_,rfl,p1,p2⟩)
 exact⟨t,g1,g2⟩
theorem F128_first{l:List (List Int)}{f:List Int→Option Bool}(P:List Int→Bool)(hl:l.length≤1048576)(hf:∀x∈l,f x=some (P x)):∃i:Int,F128 l f=some i∧((i= -1∧∀x∈l,P x=false)∨∃m:Nat,i=m∧m < l.length∧P (rowAt l m)=true):=by
 unfold F128;obtain⟨t,h1,h2⟩:=forR_inv (B:=F128_1_B l f) (D:=F128_1_D l f) (hi:=l.length) l.length rfl (by omega) (fun i _=>∀k (hk:k < i) (h2:k < l.length),P l[k]=false) (fun t=>(t= .inl ()∧∀x∈l,P x=false)∨∃m:Nat,t= .inr (m:Int)∧m < l.length∧P (rowAt l m)=true) (s:=()) (fun k hk=> by omega) (by
  intro i _ hi hI;unfold F128_1_B;rw[getI_nat hi,ob,hf _ (List.getElem_mem hi),ob];cases hp:P l[i]with
  |true=> right; exact⟨_,rfl,.inr ⟨i,rfl,hi,by rw[rowAt_lt hi]; exact hp⟩⟩
  |false=>
   left;refine⟨(),rfl,fun k hk h2=>?_⟩;by_cases e:k=i
   ·subst e; exact hp
   ·exact hI k (by omega) h2) (by
  intro _ hI;refine⟨.inl (),rfl,.inl ⟨rfl,fun x hx=>?_⟩⟩;obtain⟨k,hk,rfl⟩:=List.getElem_of_mem hx;exact hI k hk hk)
 rw[h1,ob];rcases h2 with⟨rfl,h2⟩|⟨m,rfl,h2⟩
 ·exact⟨_,rfl,.inl ⟨rfl,h2⟩⟩
 ·exact⟨_,rfl,.inr ⟨m,rfl,h2⟩⟩
theorem gstep_loop{p:Int}{w c d:Nat}(hp:2≤p∧p≤7){l:List (List Int)}{row:List Int}(hl:Rows p w l)(hd:d < l.length)(hrow:rowAt l d=row)(hc:c < w)(hw:w≤1048576)(hn:l.length≤1000000):
  forR 0 (l.length:Int) (F133_4_B p c d) F133_4_D l=some (gstep p c d row l):=by
 have hdr:=hl _ (row_mem hd);rw[hrow]at hdr;rw[idx_loop (l:=l) (B:=F133_4_B p c d) (D:=F133_4_D) (fun i r=> if i=d then r else subv p r row (nth r c)) (by omega) (fun i hi s hs hk=>?_) (fun i s=> rfl)]
 ·unfold gstep
  congr 1
  have:l.set d row=l:=by
   rw[←hrow,rowAt_lt hd]; exact List.set_getElem_self hd
  rw[this]
 ·have h1:s[i]'(by omega)=l[i]:=by
   have:=hk i;rw[if_neg (Nat.lt_irrefl _),List.getElem?_eq_getElem (by omega),List.getElem?_eq_getElem hi]at this;exact Option.some.inj this
  have h2:s[d]'(by omega)=row:=by
   have:=hk d;rw[List.getElem?_eq_getElem (by omega),List.getElem?_eq_getElem hd]at this;rw[←hrow,rowAt_lt hd];split at this
   ·simpa using this
   ·exact Option.some.inj this
  unfold F133_4_B;by_cases e:i=d
  ·subst e
   rw[if_pos rfl,if_pos rfl,←h1,List.set_getElem_self]
  ·have hr:=hl _ (List.getElem_mem hi)
   have hrc:=hr.rng c hc;rw[if_neg (by omega),if_neg e,getI_nat (show i < s.length by omega),ob,getI_nat (show d < s.length by omega),ob,h1,h2,nth_get (by rw[hr.len]; exact hc),ob,F139_eq hp hrc hr hdr hw,ob,setI_nat (by omega),ob]
theorem F133_ech{p:Int}{w:Nat}(hp:IsP p){rows:List (List Int)}(hr:Rows p w rows)(hw:w≤1048576)(hn:rows.length≤1000000):∃out,F133 p rows=some out∧EchOf p w rows out:=by
 have hpr:=hp.range;have hp1:1 < p:=by omega
 unfold F133;rw[cpy_loop (l:=rows) (B:=F133_1_B rows) (D:=F133_1_D) (by omega) (fun i hi s hs=> by
  unfold F133_1_B;have:=hr _ (List.getElem_mem hi);rw[getI_nat hi,ob,F96_eq (by rw[this.len]; exact hw),ob,app_ok (by simp; omega) (by simp; omega),ob]) (fun i s=> rfl),ob]
 by_cases h0:(rows.length:Int)=0
 ·rw[if_pos h0]
  have:rows=[]:=List.eq_nil_of_length_eq_zero (by omega);subst this;exact⟨_,rfl,.nil p w⟩
 rw[if_neg h0];have hpos:0 < rows.length:=by omega
 have e0:=getI_nat hpos;simp only[Int.natCast_zero]at e0;have hw0:=(hr _ (List.getElem_mem hpos)).len;rw[show(0:Int)=((0:Nat):Int) from rfl,getI_nat hpos,ob];obtain⟨t,g1,g2,g3,g4⟩:=forR_inv (B:=F133_2_B p) (D:=F133_2_D) (hi:=(rows[0].length:Int)) w (by rw[hw0]) (by omega) (fun c s=>∃d:Nat,s.2=d∧d < s.1.length∧s.1.length=rows.length∧GInv p w rows c s.1 d)
  (fun t=> EchOf p w rows (t.1.take t.2.toNat)∧0≤t.2∧t.2≤t.1.length) (s:=(rows,0)) ⟨0,rfl,hpos,rfl,.start hr⟩ (by
  rintro c ⟨l,dd⟩ hc ⟨d,p1,p2,p3,g⟩;simp only at p1 p2 p3 g;subst p1;have hrl:∀x∈l.drop d,(fun r=> F137 r (c:Int)) x=some (!decide (nth x c=0)):=fun x hx=> by
   have hx':=g.ok x (List.mem_of_mem_drop hx);show F137 x c=_;unfold F137;rw[nth_get (by rw[hx'.len]; exact hc),ob]
  obtain⟨at_,a1,a2⟩:=F128_first (fun x=> !decide (nth x c=0)) (l:=l.drop d) (by simp; omega) hrl;unfold F133_2_B;simp only;rw[if_pos ⟨by omega,by omega⟩,Int.toNat_natCast,a1,ob];rcases a2 with⟨rfl,a2⟩|⟨m,rfl,a2,a3⟩
  ·rw[if_pos (by decide)]
   left;refine⟨_,rfl,d,rfl,p2,p3,g.skip hc fun i h1 h2=>?_⟩;have hx:rowAt l i∈l.drop d:=by
    rw[rowAt_lt h2,List.mem_iff_getElem];exact⟨i - d,by simp; omega,by simp[show d+(i - d)=i by omega]⟩
   simpa using a2 _ hx
  ·have hml:m < l.length - d:=by simpa using a2
   have hj:d+m < l.length:=by omega
   have hrm:rowAt (l.drop d) m=rowAt l (d+m):=by rw[rowAt_lt a2,rowAt_lt hj,List.getElem_drop]
   rw[hrm]at a3;have hne:nth (rowAt l (d+m)) c≠0:=by simpa using a3
   have hrj:=g.ok _ (row_mem hj);have hrg:=hrj.rng c hc;obtain⟨k,k1,k2,k3,k4⟩:=F138_eq hp (x:=nth (rowAt l (d+m)) c) (by omega) hrg.2
   -- the swapped list
   have h2l:((l.set d (rowAt l (d+m))).set (d+m) (rowAt l d)).length=l.length:=by simp
   have h2:∀i,i < l.length→rowAt ((l.set d (rowAt l (d+m))).set (d+m) (rowAt l d)) i=rowAt l (if i=d+m then d else if i=d then d+m else i):=fun i hi=> by
    rw[rowAt_lt (by simp; exact hi)];by_cases e:i=d+m
    ·subst e; rw[if_pos rfl]; simp
    ·rw[if_neg e,List.getElem_set_ne (Ne.symm e)]
     by_cases e2:i=d
     ·subst e2; rw[if_pos rfl]; simp
     ·rw[if_neg e2,List.getElem_set_ne (Ne.symm e2),rowAt_lt hi]
   have gp:=g.put hp1 hc (show d≤d+m by omega) hj k4 h2l h2;have hrd:rowAt ((l.set d (rowAt l (d+m))).set (d+m) (rowAt l d)) d=rowAt l (d+m):=by
    rw[h2 d p2];by_cases e:d=d+m
    ·rw[if_pos e,←e]
    ·rw[if_neg e,if_pos rfl]
   generalize hl2:(l.set d (rowAt l (d+m))).set (d+m) (rowAt l d)=l2 at*;have hsc:=scl_loop hpr ⟨k2,k3⟩ hrj hw (B:=F133_3_B p k) (D:=F133_3_D) (fun i row=> rfl) (fun i s=> rfl);have ok2:Rows p w (l2.set d (scl p (rowAt l (d+m)) k)):=fun r hr'=> by
    rcases List.mem_or_eq_of_mem_set hr' with q|q
    ·obtain⟨i,hi,rfl⟩:=mem_row.1 q
     rw[h2 i (by omega)];refine g.ok _ (row_mem ?_);split
     ·exact p2
     ·split
      ·exact hj
      ·omega
    ·rw[q]; exact scl_ok (by omega) hrj k
   have hs3:(l2.set d (scl p (rowAt l (d+m)) k)).length=l.length:=by simp[h2l]
   have hr3:rowAt (l2.set d (scl p (rowAt l (d+m)) k)) d=scl p (rowAt l (d+m)) k:=by rw[rowAt_lt (by omega)]; simp
   have hgl:=gstep_loop hpr ok2 (show d < _ by omega) hr3 hc hw (by omega);have hgs:gstep p c d (scl p (rowAt l (d+m)) k) (l2.set d (scl p (rowAt l (d+m)) k))=gstep p c d (scl p (rowAt l (d+m)) k) l2:=by unfold gstep; rw[List.set_set]
   rw[hgs]at hgl;have hlen4:(gstep p c d (scl p (rowAt l (d+m)) k) l2).length=l.length:=by rw[gstep_len]; exact h2l
   have e1:getI l ((d+m:Nat):Int)=some (rowAt l (d+m)):=by rw[getI_nat hj,rowAt_lt hj]
   have e2:getI l (d:Int)=some (rowAt l d):=by rw[getI_nat p2,rowAt_lt p2]
   have e3:getI l2 (d:Int)=some (rowAt l (d+m)):=by rw[getI_nat (by omega),←rowAt_lt (by omega),hrd]
   rw[if_neg (by omega),chk_ok (by omega) (by omega),ob,show(d:Int)+(m:Int)=((d+m:Nat):Int) by omega,e1,ob,e2,ob,setI_nat p2,ob,setI_nat (by simp; omega),ob,hl2,e3,ob,
    nth_get (by rw[hrj.len]; exact hc),ob,k1,ob,hsc,ob,setI_nat (by omega),ob,hgl,ob,chk_ok (by omega) (by omega),ob]
   by_cases hd1:(d:Int)+1=((gstep p c d (scl p (rowAt l (d+m)) k) l2).length:Int)
   ·right
    rw[if_pos hd1];refine⟨_,rfl,?_,by simp only; omega,by simp only; omega⟩;simp only;rw[show((d:Int)+1).toNat=d+1 by omega];exact gp.done hp1 (.inr (by omega))
   ·left
    rw[if_neg hd1];refine⟨_,rfl,d+1,by simp only; omega,by simp only; have:=gp.dn; omega,by simp only; omega,gp⟩) (by
  rintro⟨l,dd⟩ ⟨d,p1,p2,p3,g⟩;simp only at p1 p2 p3 g;subst p1;refine⟨_,rfl,?_,by simp only; omega,by simp only; omega⟩;simp only;rw[Int.toNat_natCast];exact g.done hp1 (.inl rfl))
 rw[show((0:Nat):Int)=(0:Int) from rfl,g1,ob,if_pos ⟨g3,g4⟩];exact⟨_,rfl,g2⟩
theorem reduce_same{p:Int}{w:Nat}(hp:IsP p){rows:List (List Int)}(hr:Rows p w rows)(hw:w≤1048576)(hn:rows.length≤1000000):∃out,F131 p rows=some out∧F133 p rows=some out∧EchOf p w rows out:=by
 obtain⟨a,a1,a2⟩:=F131_ech hp hr hw hn;obtain⟨b,b1,b2⟩:=F133_ech hp hr hw hn;have:=a2.same (by have:=hp.range; omega) b2;subst this;exact⟨a,a1,b1,a2⟩
theorem F133_self{p:Int}{w:Nat}(hp:IsP p){E:List (List Int)}(h:Red p w E)(hw:w≤1048576)(hn:E.length≤1000000):F133 p E=some E:=by
 obtain⟨X, -,x2,x3⟩:=reduce_same hp h.ok hw hn;rw[x2,x3.same (by have:=hp.range; omega) (EchOf.self h)]
theorem red_len{p:Int}{w:Nat}{E:List (List Int)}(h:Red p w E):E.length≤w:=by
 have h1:=h.leads;have key:∀ (l:List Nat) (b:Nat),l.Pairwise (·< ·)→(∀x∈l,b≤x∧x < w)→l.length+b≤max w b:=by
  intro l;induction l with
  |nil=> intro b _ _; simp; omega
  |cons a l ih=>
   intro b hp hx;obtain⟨p1,p2⟩:=List.pairwise_cons.1 hp;have ha:=hx a List.mem_cons_self;have:=ih (a+1) p2 fun x hx'=>⟨p1 x hx',(hx x (List.mem_cons_of_mem _ hx')).2⟩;simp only[List.length_cons];omega
 have:=key (E.map ld) 0 h1 fun x hx=> by
  obtain⟨r,hr,rfl⟩:=List.mem_map.1 hx;exact⟨Nat.zero_le _,(h.one r hr).1⟩
 simpa using this
theorem set_app_right{r s:List Int}{i:Nat}(x:Int):(r++s).set (r.length+i) x=r++s.set i x:=by
 rw[List.set_append_right _ _ (by omega)]; simp
theorem F125_1_eq{p:Int}{w:Nat}{rows:List (List Int)}(hr:Rows p w rows){x2:List Int}(hx:x2.length=w)(hw:w≤1000)(hn:rows.length≤1000):
  forR 0 (rows.length:Int) (F125_1_B p rows x2) (F125_1_D p rows x2) []=some (longs rows.length rows):=by
 have hl:=longs_len rows.length rows;obtain⟨t,g1,g2⟩:=forR_inv (B:=F125_1_B p rows x2) (D:=F125_1_D p rows x2) rows.length rfl (by omega) (fun i s=> s=(longs rows.length rows).take i) (fun t=> t=longs rows.length rows) (s:=[]) (by simp) (by
  rintro i s hi rfl;left;have hri:=hr _ (List.getElem_mem hi);refine⟨(longs rows.length rows).take (i+1),?_,rfl⟩;unfold F125_1_B appZ;have hz:List.replicate ((rows.length:Int)).toNat (0:Int)=zv rows.length:=by simp[zv]
  have hzl:(zv rows.length).length=rows.length:=by simp[zv]
  have e:((x2.length:Int)+(i:Int))=((rows[i].length+i:Nat):Int):=by rw[hx,hri.len]; omega
  rw[getI_nat hi,ob,F96_eq (by rw[hri.len]; omega),ob,if_pos ⟨by omega,by omega,by omega⟩,hz,app_ok (by rw[hri.len,hzl]; omega) (by rw[hri.len,hzl]; omega),ob,chk_ok (by rw[hx]; omega) (by rw[hx]; omega),ob,e,getI_nat (by rw[List.length_append,hzl]; omega),ob,
   setI_nat (by rw[List.length_append,hzl]; omega),ob,app_ok (by simp; omega) (by simp; omega),ob,set_app_right]
  congr 2
  rw[←List.take_append_getElem (show i < (longs rows.length rows).length by omega),longs_at,rowAt_lt hi];rfl) (by
  rintro s rfl;exact⟨_,rfl,by rw[List.take_of_length_le (by omega)]⟩)
 rw[g1,g2]
theorem F122_1_eq{p:Int}{w:Nat}{rows:List (List Int)}(hr:Rows p w rows)(hw:w≤1000)(hn:rows.length≤1000):
  forR 0 (rows.length:Int) (F122_1_B p rows.length rows) (F122_1_D p rows.length rows) ([],0)=some (longs rows.length rows,if rows.length=0 then 0 else(w:Int)):=by
 have hl:=longs_len rows.length rows;obtain⟨t,g1,g2⟩:=forR_inv (B:=F122_1_B p rows.length rows) (D:=F122_1_D p rows.length rows) rows.length rfl (by omega) (fun i s=> s=((longs rows.length rows).take i,if i=0 then 0 else(w:Int))) (fun t=> t=(longs rows.length rows,if rows.length=0 then 0 else(w:Int))) (s:=([],0)) (by simp) (by
  rintro i s hi rfl;left;have hri:=hr _ (List.getElem_mem hi);refine⟨((longs rows.length rows).take (i+1),if i+1=0 then 0 else(w:Int)),?_,rfl⟩;unfold F122_1_B;simp only;have hzl:(zv rows.length).length=rows.length:=by simp[zv]
  rw[mkL_ok rows.length rfl (by omega) (by omega),ob]
  change (getI (zv rows.length) (i:Int)).bind _=_
  rw[getI_nat (by omega),ob]
  change (setI (zv rows.length) (i:Int) 1).bind _=_
  rw[setI_nat (by omega),ob,getI_nat hi,ob,F94_eq (by rw[hri.len]; omega),ob,app_ok (by simp[zv,hri.len]; omega) (by simp[zv,hri.len]; omega),ob,app_ok (by simp; omega) (by simp; omega),ob,if_neg (by omega),hri.len]
  congr 3
  rw[←List.take_append_getElem (show i < (longs rows.length rows).length by omega),longs_at,rowAt_lt hi];rfl) (by
  rintro s rfl;exact⟨_,rfl,by rw[List.take_of_length_le (by omega)]⟩)
 rw[g1,g2]
theorem tails_take{w i:Nat}{E:List (List Int)}(hi:i < E.length):tails w (E.take (i+1))=if w≤ld E[i]then tails w (E.take i)++[E[i].drop w]else tails w (E.take i):=by
 unfold tails;rw[←List.take_append_getElem hi,List.filter_append,List.map_append];by_cases h:w≤ld E[i]
 ·rw[if_pos h]; simp[h]
 ·rw[if_neg h]; simp[h]
theorem tails_len{w:Nat}{E:List (List Int)}:(tails w E).length≤E.length:=by
 unfold tails;rw[List.length_map]; exact List.length_filter_le _ _
theorem F122_2_eq{p:Int}{w n:Nat}{E:List (List Int)}(h:Red p (w+n) E)(hw:w+n≤10000):
  forR 0 (E.length:Int) (F122_2_B w E) (F122_2_D w E) []=some (tails w E):=by
 have hE:=red_len h;obtain⟨t,g1,g2⟩:=forR_inv (B:=F122_2_B w E) (D:=F122_2_D w E) E.length rfl (by omega) (fun i s=> s=tails w (E.take i)) (fun t=> t=tails w E) (s:=[]) (by simp[tails]) (by
  rintro i s hi rfl;left;have hk:=h.ok _ (List.getElem_mem hi);have ho:=h.one _ (List.getElem_mem hi);have htl:(tails w (E.take i)).length≤10000:=by have:=tails_len (w:=w) (E:=E.take i); simp at this; omega
  refine⟨tails w (E.take (i+1)),?_,rfl⟩;rw[tails_take hi];unfold F122_2_B;rw[getI_nat hi,ob,F81_ld (by rw[hk.len]; omega),if_pos (by rw[hk.len]; exact ho.1),ob];by_cases q:w≤ld E[i]
  ·rw[if_pos (by omega),if_pos q]
   unfold slI;rw[if_pos ⟨by omega,by rw[hk.len]; omega,Int.le_refl _⟩,ob,Int.toNat_natCast,Int.toNat_natCast,List.take_length,F94_eq (by simp[hk.len]; omega),ob,app_ok (by simp; omega) (by simp; omega),ob]
  ·rw[if_neg (by omega),if_neg q]) (by
  rintro s rfl;exact⟨_,rfl,by rw[List.take_length]⟩)
 rw[g1,g2]
theorem isZero_take{r:List Int}{w:Nat}(h:w≤r.length):(∀x∈r.take w,x=0)↔w≤ld r:=by
 constructor
 ·intro hx
  refine Nat.le_of_not_lt fun q=>?_;have hl:ld r < r.length:=by omega
  refine ld_ne hl (by rw[nth_lt hl]; exact hx _ (List.mem_take_iff_getElem.2 ⟨ld r,by omega,rfl⟩))
 ·intro q x hx
  obtain⟨i,hi,rfl⟩:=List.mem_take_iff_getElem.1 hx;have:=ld_zero (r:=r) (j:=i) (by omega)
  rwa[nth_lt (by omega)]at this
theorem F125_2_eq{p:Int}{w n:Nat}{E:List (List Int)}(h:Red p (w+n) E)(hw:w+n≤10000){x2:List Int}(hx:x2.length=w):
  forR 0 (E.length:Int) (F125_2_B p x2 E) (F125_2_D p x2 E) []=some (tails w E):=by
 have hE:=red_len h;obtain⟨t,g1,g2⟩:=forR_inv (B:=F125_2_B p x2 E) (D:=F125_2_D p x2 E) E.length rfl (by omega) (fun i s=> s=tails w (E.take i)) (fun t=> t=tails w E) (s:=[]) (by simp[tails]) (by
  rintro i s hi rfl;left;have hk:=h.ok _ (List.getElem_mem hi);have ho:=h.one _ (List.getElem_mem hi);have htl:(tails w (E.take i)).length≤10000:=by have:=tails_len (w:=w) (E:=E.take i); simp at this; omega
  refine⟨tails w (E.take (i+1)),?_,rfl⟩;rw[tails_take hi];unfold F125_2_B slI;rw[getI_nat hi,ob,hx,if_pos ⟨by omega,by omega,by rw[hk.len]; omega⟩,ob,Int.toNat_natCast,Int.toNat_zero,List.drop_zero];rcases((F92_tells (l:=E[i].take w) (by simp; omega)).iff (isZero_take (by rw[hk.len]; omega))).case with⟨e,q⟩|⟨e,q⟩
  ·rw[e,ob,if_pos rfl,if_pos q,if_pos ⟨by omega,by rw[hk.len]; omega,Int.le_refl _⟩,ob,Int.toNat_natCast,List.take_length,app_ok (by simp; omega) (by simp; omega),ob]
  ·rw[e,ob,if_neg Bool.false_ne_true,if_neg q]) (by
  rintro s rfl;exact⟨_,rfl,by rw[List.take_length]⟩)
 rw[g1,g2]
theorem kernel_same{p:Int}{w:Nat}(hp:IsP p){rows:List (List Int)}(hr:Rows p w rows)(hw:w≤1000)(hn:rows.length≤1000):∃K,F122 p rows.length rows=some K∧F125 p rows=some K∧Red p rows.length K:=by
 have hp1:1 < p:=by have:=hp.range; omega
 unfold F122 F125;rw[F122_1_eq hr hw hn,ob];simp only;by_cases h0:rows.length=0
 ·have:rows=[]:=List.eq_nil_of_length_eq_zero h0
  subst this;have e:(longs ([]:List (List Int)).length [])=[]:=by simp[longs]
  obtain⟨E,e1, -,e3⟩:=reduce_same hp (rows:=[]) (w:=0+0) (fun r h=>(nomatch h)) (by omega) (by simp);have hE:E=[]:=List.eq_nil_of_length_eq_zero (by have:=red_len e3.red; omega);subst hE;rw[e,e1,ob,if_pos (by simp),if_pos (by simp)];have:=F122_2_eq (w:=0) (n:=0) e3.red (by omega);have h2:forR 0 ((([]:List (List Int)).length:Nat):Int) (F122_2_B 0 []) (F122_2_D 0 []) []=some []:=this;rw[h2];exact⟨[],rfl,rfl,⟨fun r h=>(nomatch h),fun r h=>(nomatch h),.nil⟩⟩
 ·rw[if_neg h0,if_neg (by omega)]
  obtain⟨E,e1,e2,e3⟩:=reduce_same hp (longs_ok hp1 hr) (by omega) (by rw[longs_len]; omega);have hpos:0 < rows.length:=by omega
  have hx0:=(hr _ (List.getElem_mem hpos)).len;have ht:=tails_red e3.red;rw[show(0:Int)=((0:Nat):Int) from rfl,getI_nat hpos,ob,show((0:Nat):Int)=(0:Int) from rfl,e1,ob,F122_2_eq e3.red (by omega),ob,F125_1_eq hr hx0 hw hn,ob,e2,ob,F125_2_eq e3.red (by omega) hx0,ob,F133_self hp ht (by omega) (by have:=red_len ht; omega),ob];exact⟨_,rfl,rfl,ht⟩
theorem RowOK.vec{p w:Int}{row:List Int}(h:RowOK p w row):VecOK p w.toNat row:=by
 have h1:=h.1;refine⟨by omega,fun j hj=>?_⟩;have hj':j < row.length:=by omega
 rw[nth_lt hj'];have:=h.2 _ (List.getElem_mem hj');omega
theorem ValidC.dim{x:GComplex}(h:ValidC x){n:Nat}(hn:n < x.Dims.length):0≤x.Dims.getD n 0∧x.Dims.getD n 0≤8:=h.dims _ (getD_mem hn 0)
theorem F99_at{x:GComplex}(hs:x.Dims.length≤1048576){n:Nat}(hn:n < x.Dims.length):F99 x (n:Int)=some (x.Dims.getD n 0):=by
 unfold F99;rw[chk_ok (by omega) (by omega),ob,F54_eq,ob,if_pos (by simp; omega),getI_getD hn 0,ob]
theorem F102_at{x:GComplex}(hs:x.Dims.length≤1048576){n:Nat}(hn:n < x.Dims.length):F102 x (n:Int)=some (x.Dims.getD n 0):=by
 unfold F102;rw[F86_eq hs,ob,F56_eq,ob,if_pos (by simp; omega),getI_getD hn 0,ob]
theorem F124_eq{n:Nat}(hn:n≤1000):F124 (n:Int)=some (units n):=by
 unfold F124;have hl:=units_len n;obtain⟨t,g1,g2⟩:=forR_inv (B:=F124_1_B (n:Int)) (D:=F124_1_D (n:Int)) n rfl (by omega) (fun i s=> s=(units n).take i) (fun t=> t=units n) (s:=[]) (by simp) (by
  rintro i s hi rfl;left;refine⟨(units n).take (i+1),?_,rfl⟩;have hzl:(zv n).length=n:=by simp[zv]
  unfold F124_1_B F132;rw[mkL_ok n rfl (by omega) (by omega),ob]
  change (((getI (zv n) (i:Int)).bind _).bind _=_)
  rw[getI_nat (by omega),ob]
  change (((setI (zv n) (i:Int) 1).bind _).bind _=_)
  rw[setI_nat (by omega),ob,ob,app_ok (by simp; omega) (by simp; omega),ob]
  congr 2
  rw[←List.take_append_getElem (show i < (units n).length by omega)]
  congr 2
  simp[units,unitv]) (by
  rintro s rfl;exact⟨_,rfl,by rw[List.take_of_length_le (by omega)]⟩)
 rw[g1,ob,g2]
theorem kernel_none{p:Int}(hp:IsP p){n:Nat}(hn:n≤1000):F122 p (n:Int) (List.replicate n [])=some (units n):=by
 have hp1:1 < p:=by have:=hp.range; omega
 have hr:Rows p 0 (List.replicate n ([]:List Int)):=fun r hr=> by
  obtain⟨_,rfl⟩:=List.mem_replicate.1 hr;exact⟨rfl,fun j hj=> absurd hj (Nat.not_lt_zero _)⟩
 have hl:(List.replicate n ([]:List Int)).length=n:=by simp
 have e0:=F122_1_eq hr (by omega) (by omega);rw[hl]at e0;have hlong:longs n (List.replicate n ([]:List Int))=units n:=by
  unfold longs units;refine List.map_congr_left fun i hi=>?_;have:i < n:=List.mem_range.1 hi;simp[rowAt,this]
 have hu:=units_red hp1 n;obtain⟨E,e1, -,e3⟩:=reduce_same hp hu.ok (by omega) (by rw[units_len]; omega);have hE:=e3.same hp1 (EchOf.self hu);subst hE;have ht:tails 0 (units n)=units n:=by
  unfold tails;rw[List.filter_eq_self.2 (fun r _=> by simp)]
  conv=> rhs; rw[←List.map_id (units n)]
  exact List.map_congr_left fun r _=> rfl
 have h2:=F122_2_eq (w:=0) (n:=n) (by rw[Nat.zero_add]; exact hu) (by omega);rw[ht]at h2;have h2':forR 0 ((units n).length:Int) (F122_2_B 0 (units n)) (F122_2_D 0 (units n)) []=some (units n):=h2;unfold F122;rw[e0,ob];have hz:(if n=0 then(0:Int)else((0:Nat):Int))=0:=by split <;> rfl
 simp only;rw[hz,hlong,e1,ob,h2',ob]
theorem F76_0{x:GComplex}(hs:x.Dims.length≤1048576)(hl:0 < x.Dims.length){n:Nat}(hn:x.Dims.getD 0 0=n)(hn8:n≤1000):F76 x 0=some (List.replicate n []):=by
 unfold F76;rw[chk_ok (by omega) (by omega),ob,F54_eq,ob,if_neg (by simp)];have h99:F99 x 0=some (n:Int):=by have:=F99_at hs hl; rw[hn]at this; exact this
 obtain⟨t,g1,g2⟩:=loopW_inv (S:=F76_1_S x 0) (fun s=>(n - s.2).toNat) (fun s=> 0≤s.2∧s.2≤n∧s.1=List.replicate s.2.toNat []) (fun t=> t=List.replicate n []) (s:=([],0)) ⟨Int.le_refl _,by omega,rfl⟩ (by
  rintro⟨l,j⟩ ⟨p1,p2,p3⟩;simp only at p1 p2 p3;subst p3;unfold F76_1_S;simp only;rw[h99,ob];by_cases hj:j < (n:Int)
  ·left
   rw[if_pos hj,app_ok (by simp; omega) (by simp; omega),ob,chk_ok (by omega) (by omega),ob];refine⟨_,rfl,⟨by simp only; omega,by simp only; omega,?_⟩,by simp only; omega⟩;simp only;rw[show(j+1).toNat=j.toNat+1 from by omega,List.replicate_succ']
  ·right
   rw[if_neg hj];have:j.toNat=n:=by omega
   rw[this];exact⟨_,rfl,rfl⟩)
 rw[g1,ob,g2]
theorem cycles_same{x:GComplex}(hx:SmallC x)(h:ValidC x){n:Nat}(hn:n < x.Dims.length):∃K,F98 x (n:Int)=some K∧F100 x (n:Int)=some K∧Red x.Prime (x.Dims.getD n 0).toNat K:=by
 have hp1:1 < x.Prime:=by have:=h.p.range; omega
 have hd:=h.dim hn;have hml:=h.ml;have hxd:=hx.d;unfold F98 F100;rw[F99_at hx.d hn,ob];rcases Nat.eq_zero_or_pos n with h0|h0
 ·subst h0
  have hdn:x.Dims.getD 0 0=((x.Dims.getD 0 0).toNat:Int):=by omega
  rw[if_pos (by omega),show((0:Nat):Int)=0 from rfl,F76_0 hx.d hn hdn (by omega),ob,hdn,Int.toNat_natCast,kernel_none h.p (by omega),ob];have h102:=F102_at hx.d hn;rw[hdn]at h102;rw[show(0:Int)=((0:Nat):Int) from rfl,h102,ob,F124_eq (by omega),ob];exact⟨_,rfl,rfl,units_red hp1 _⟩
 ·obtain⟨k,rfl⟩:∃k,n=k+1:=⟨n - 1,by omega⟩
  have hk:k < x.Maps.length:=by omega
  have ht:=h.tab k hk;have hdk:=h.dim (show k < x.Dims.length by omega);have e1:getI x.Maps (k:Int)=some (x.Maps.getD k []):=getI_getD hk [];have hr:Rows x.Prime (x.Dims.getD k 0).toNat (x.Maps.getD k []):=fun r hr=>(ht.2 r hr).vec;have h76:F76 x ((k+1:Nat):Int)=some (x.Maps.getD k []):=by
   unfold F76;rw[chk_ok (by omega) (by omega),ob,F54_eq,ob,if_pos (by simp; omega),chk_ok (by omega) (by omega),ob,show((k+1:Nat):Int) - 1=(k:Int) by omega,e1,ob]
  have hlen:=ht.1;obtain⟨K,k1,k2,k3⟩:=kernel_same h.p hr (by omega) (by omega);rw[h76,ob,←hlen,k1,ob,if_neg (by omega),F86_eq hx.d,ob,if_neg (by omega),chk_ok (by omega) (by omega),ob,show((k+1:Nat):Int) - 1=(k:Int) by omega,e1,ob,k2,ob,Int.toNat_natCast];exact⟨_,rfl,rfl,k3⟩
def freeOf(K:List (List Int))(n:Nat):List Int:=((List.range n).filter fun i=> !(K.any fun r=> decide (ld r=i))).map fun(i:Nat)=>(i:Int)
theorem freeOf_succ(K:List (List Int))(n:Nat):freeOf K (n+1)=if(K.any fun r=> decide (ld r=n))=true then freeOf K n else freeOf K n++[(n:Int)]:=by
 unfold freeOf;rw[List.range_succ,List.filter_append,List.map_append];cases h:(K.any fun r=> decide (ld r=n))with
 |true=> rw[if_pos rfl]; simp[h]
 |false=> rw[if_neg Bool.false_ne_true]; simp[h]
theorem freeOf_len(K:List (List Int))(n:Nat):(freeOf K n).length≤n:=by
 unfold freeOf;rw[List.length_map];have:=List.length_filter_le (fun i=> !(K.any fun r=> decide (ld r=i))) (List.range n)
 rwa[List.length_range]at this
theorem F115_ld{r:List Int}(hl:r.length≤1048576)(h:ld r < r.length):F115 r (fun x=> F123 x)=some (ld r:Int):=by
 unfold F115;obtain⟨t,g1,g2⟩:=forR_inv (B:=F115_1_B r (fun x=> F123 x)) (D:=F115_1_D r (fun x=> F123 x)) r.length rfl (by omega) (fun i _=> i≤ld r) (fun t=> t= .inr (ld r:Int)) (s:=()) (Nat.zero_le _) (by
  rintro i _ hi hI;unfold F115_1_B F123;rw[nth_get hi,ob,ob];by_cases q:nth r i=0
  ·left
   rw[if_neg (by simp[q])];refine⟨(),rfl,?_⟩;rcases Nat.lt_or_ge i (ld r)with q2|q2
   ·exact q2
   ·have:i=ld r:=by omega
    subst this;exact absurd q (ld_ne hi)
  ·right
   rw[if_pos (by simp[q])];have:ld r=i:=by
    rcases Nat.lt_or_ge i (ld r)with q2|q2
    ·exact absurd (ld_zero q2) q
    ·omega
   exact⟨_,rfl,by rw[this]⟩) (by
  rintro _ hI;omega)
 rw[g1,ob,g2]
theorem F101_eq{p:Int}{w:Nat}{K:List (List Int)}(h:Red p w K)(hw:w≤1000):F101 K=some (K.map fun r=>(ld r:Int)):=by
 unfold F101;have hk:=red_len h;obtain⟨t,g1,g2⟩:=forR_inv (B:=F101_1_B K) (D:=F101_1_D K) K.length rfl (by omega) (fun i s=> s=(K.map fun r=>(ld r:Int)).take i) (fun t=> t=K.map fun r=>(ld r:Int)) (s:=[]) (by simp) (by
  rintro i s hi rfl;left;have hok:=h.ok _ (List.getElem_mem hi);have hone:=h.one _ (List.getElem_mem hi);refine⟨(K.map fun r=>(ld r:Int)).take (i+1),?_,rfl⟩;unfold F101_1_B;rw[getI_nat hi,ob,F115_ld (by rw[hok.len]; omega) (by rw[hok.len]; exact hone.1),ob,app_ok (by simp; omega) (by simp; omega),ob]
  congr 2
  rw[←List.take_append_getElem (show i < (K.map fun r=>(ld r:Int)).length by simpa using hi)];simp) (by
  rintro s rfl;exact⟨_,rfl,by rw[List.take_of_length_le (by simp)]⟩)
 rw[g1,ob,g2]
theorem F103_eq{K:List (List Int)}(hn:K.length≤1000)(v:Nat):F103 (K.map fun r=>(ld r:Int)) (v:Int)=some (K.any fun r=> decide (ld r=v)):=by
 unfold F103 F126;obtain⟨t,g1,g2⟩:=forR_inv (B:=F126_1_B (K.map fun r=>(ld r:Int)) v) (D:=F126_1_D (K.map fun r=>(ld r:Int)) v) (hi:=((K.map fun r=>(ld r:Int)).length:Int)) K.length (by simp) (by omega) (fun i _=>∀r∈K.take i,ld r≠v) (fun t=>(t= .inl ()∧∀r∈K,ld r≠v)∨∃m:Nat,t= .inr (m:Int)∧∃r∈K,ld r=v) (s:=()) (by simp) (by
  rintro i _ hi hI;unfold F126_1_B;rw[getI_nat (by simpa using hi),ob];by_cases q:ld K[i]=v
  ·right
   rw[if_pos (by simp[q])];exact⟨_,rfl,.inr ⟨i,rfl,_,List.getElem_mem hi,q⟩⟩
  ·left
   rw[if_neg (by simp; omega)];refine⟨(),rfl,fun r hr=>?_⟩;rw[←List.take_append_getElem hi]at hr;rcases List.mem_append.1 hr with h|h
   ·exact hI r h
   ·have:r=K[i]:=by simpa using h
    rw[this]; exact q) (by
  rintro _ hI;rw[List.take_length]at hI;exact⟨_,rfl,.inl ⟨rfl,hI⟩⟩)
 rw[g1,ob];rcases g2 with⟨rfl,h⟩|⟨m,rfl,r,hr,e⟩
 ·show some (decide ((0:Int)≤ -1))=_
  refine congrArg some (Eq.symm ?_);rw[Bool.eq_iff_iff];simp only[List.any_eq_true,decide_eq_true_eq];exact⟨fun⟨r,hr,e⟩=> absurd e (h r hr),fun q=> by omega⟩
 ·show some (decide ((0:Int)≤(m:Int)))=_
  refine congrArg some (Eq.symm ?_);rw[Bool.eq_iff_iff];simp only[List.any_eq_true,decide_eq_true_eq];exact⟨fun _=> by omega,fun _=>⟨r,hr,e⟩⟩
theorem F61_2_eq{p:Int}{w:Nat}{K:List (List Int)}(h:Red p w K)(hw:w≤1000)(a:GComplex)(b:Int)(o:List Int)(v:Nat):
  forR 0 (K.length:Int) (F61_2_B a b K o v) (F61_2_D a b K o v) false=some (K.any fun r=> decide (ld r=v)):=by
 have hk:=red_len h;obtain⟨t,g1,g2⟩:=forR_inv (B:=F61_2_B a b K o v) (D:=F61_2_D a b K o v) K.length rfl (by omega) (fun i s=> s=(K.take i).any fun r=> decide (ld r=v)) (fun t=> t=K.any fun r=> decide (ld r=v)) (s:=false) (by simp) (by
  rintro i s hi rfl;left;have hok:=h.ok _ (List.getElem_mem hi);have hone:=h.one _ (List.getElem_mem hi);refine⟨(K.take (i+1)).any fun r=> decide (ld r=v),?_,rfl⟩;rw[←List.take_append_getElem hi,List.any_append];unfold F61_2_B;cases q:((K.take i).any fun r=> decide (ld r=v))with
  |true=> rw[if_pos rfl]; simp
  |false=>
   rw[if_neg Bool.false_ne_true,getI_nat hi,ob,F81_ld (by rw[hok.len]; omega),if_pos (by rw[hok.len]; exact hone.1),ob];simp; omega) (by
  rintro s rfl;exact⟨_,rfl,by rw[List.take_length]⟩)
 rw[g1,g2]
theorem free_of{x:GComplex}(hx:SmallC x)(h:ValidC x){n:Nat}(hn:n < x.Dims.length):∃K,F61 x (n:Int)=some (freeOf K (x.Dims.getD n 0).toNat)∧F63 x (n:Int)=some (freeOf K (x.Dims.getD n 0).toNat):=by
 obtain⟨K,k1,k2,k3⟩:=cycles_same hx h hn;have hd:=h.dim hn;have hkl:=red_len k3;obtain⟨d,hdn⟩:∃d:Nat,x.Dims.getD n 0=d:=⟨(x.Dims.getD n 0).toNat,by omega⟩;rw[hdn]at k3 hd;rw[Int.toNat_natCast]at k3;have hd8:d≤8:=by omega
 rw[hdn,Int.toNat_natCast];refine⟨K,?_,?_⟩
 ·unfold F61
  rw[k1,ob];obtain⟨t,g1,g2⟩:=loopW_inv (S:=F61_1_S x n K) (fun s=>(d - s.2).toNat) (fun s=>∃j:Nat,s.2=j∧j≤d∧s.1=freeOf K j) (fun t=> t=freeOf K d) (s:=([],0)) ⟨0,rfl,Nat.zero_le _,by simp[freeOf]⟩ (by
   rintro⟨l,jj⟩ ⟨j,p1,p2,p3⟩;simp only at p1 p2 p3;subst p1; subst p3;have hfl:=freeOf_len K j;unfold F61_1_S;simp only;rw[F99_at hx.d hn,hdn,ob];by_cases hj:j < d
   ·left
    rw[if_pos (by omega),F61_2_eq k3 (by omega),ob];have hs:=freeOf_succ K j;cases q:(K.any fun r=> decide (ld r=j))with
    |true=>
     rw[q,if_pos rfl]at hs;rw[if_pos rfl,chk_ok (by omega) (by omega),ob];exact⟨_,rfl,⟨j+1,by simp,hj,hs.symm⟩,by simp only; omega⟩
    |false=>
     rw[q,if_neg Bool.false_ne_true]at hs;rw[if_neg Bool.false_ne_true,app_ok (by simp; omega) (by simp; omega),ob,chk_ok (by omega) (by omega),ob];exact⟨_,rfl,⟨j+1,by simp,hj,hs.symm⟩,by simp only; omega⟩
   ·right
    rw[if_neg (by omega)];have:j=d:=by omega
    subst this;exact⟨_,rfl,rfl⟩)
  rw[g1,ob,g2]
 ·unfold F63
  rw[k2,ob,F101_eq k3 (by omega),ob,F102_at hx.d hn,hdn,ob];obtain⟨t,g1,g2⟩:=forR_inv (B:=F63_1_B (K.map fun r=>(ld r:Int)) d) (D:=F63_1_D (K.map fun r=>(ld r:Int)) d) d rfl (by omega) (fun i s=> s=freeOf K i) (fun t=> t=freeOf K d) (s:=[]) (by simp[freeOf]) (by
   rintro i s hi rfl;left;have hfl:=freeOf_len K i;have hs:=freeOf_succ K i;refine⟨freeOf K (i+1),?_,rfl⟩;unfold F63_1_B;rw[F103_eq (by omega),ob];cases q:(K.any fun r=> decide (ld r=i))with
   |true=>
    rw[q,if_pos rfl]at hs;rw[if_pos rfl,hs]
   |false=>
    rw[q,if_neg Bool.false_ne_true]at hs;rw[if_neg Bool.false_ne_true,app_ok (by simp; omega) (by simp; omega),ob,hs]) (by
   rintro s rfl;exact⟨_,rfl,rfl⟩)
  rw[g1,ob,g2]
theorem forR_map{α β:Type}{l:List α}(g:α→β){B:Int→List β→Option (List β⊕List β)}{D:Int→List β→Option (List β)}{s0:List β}(hl:l.length≤1000000)
  (hB:∀ (k:Nat) (hk:k < l.length) (s:List β),s.length=s0.length+k→B k s=some (.inl (s++[g l[k]]))) (hD:∀i s,D i s=some s):forR 0 (l.length:Int) B D s0=some (s0++l.map g):=by
 have hlen:l.length < 4611686018427387904:=by omega
 obtain⟨t,g1,g2⟩:=forR_inv (B:=B) (D:=D) l.length rfl hlen (fun i s=> s=s0++(l.map g).take i) (fun t=> t=s0++l.map g) (s:=s0) (by simp) (by
  rintro i s hi rfl;left;refine⟨_,hB i hi _ (by simp; omega),?_⟩;have:i < (l.map g).length:=by simpa using hi
  rw[←List.take_append_getElem this];simp) (by
  rintro s rfl;exact⟨_,hD _ _,by rw[List.take_of_length_le (by simp)]⟩)
 rw[g1,g2]
theorem rest_take{p:Int}{R:List (List Int)}{v:List Int}{i:Nat}(hi:i < R.length):rest p (R.take (i+1)) v=subv p (rest p (R.take i) v) R[i] (nth (rest p (R.take i) v) (ld R[i])):=by
 rw[←List.take_append_getElem hi];unfold rest;rw[List.foldl_append];rfl
theorem F205_eq{p:Int}{w:Nat}(hp:IsP p){R:List (List Int)}(hR:Red p w R){v:List Int}(hv:VecOK p w v)(hw:w≤1000):F205 p v R=some (rest p R v):=by
 have hp0:0 < p:=by have:=hp.range; omega
 have hRl:=red_len hR;unfold F205;rw[F96_eq (by rw[hv.len]; omega),ob,F101_eq hR hw,ob];obtain⟨t,g1,g2⟩:=forR_inv (B:=F205_1_B p R (R.map fun r=>(ld r:Int))) (D:=F205_1_D) (hi:=((R.map fun r=>(ld r:Int)).length:Int)) R.length (by simp) (by omega) (fun i s=> s=rest p (R.take i) v) (fun t=> t=rest p R v) (s:=v) rfl (by
  rintro i s hi rfl;left;have hri:=hR.ok _ (List.getElem_mem hi);have hro:=hR.one _ (List.getElem_mem hi);have hok:=rest_ok hp0 (R:=R.take i) (fun r hr=> hR.ok r (List.mem_of_mem_take hr)) hv;have hrng:=hok.rng _ hro.1;refine⟨_,?_,(rest_take hi).symm⟩;unfold F205_1_B;rw[getI_nat (by simpa using hi),ob,List.getElem_map,getI_nat hi,ob,nth_get (by rw[hok.len]; exact hro.1),ob,F139_eq hp.range hrng hok hri (by omega),ob]) (by
  rintro s rfl;exact⟨_,rfl,by rw[List.take_length]⟩)
 rw[g1,g2]
theorem rest_rows{p:Int}{w:Nat}(hp0:0 < p){R N:List (List Int)}(hR:Rows p w R)(hN:Rows p w N):Rows p w (N.map (rest p R)):=fun r hr=> by
 obtain⟨v,hv,rfl⟩:=List.mem_map.1 hr;exact rest_ok hp0 hR (hN v hv)
theorem F204_eq{p:Int}{w:Nat}(hp:IsP p){R N:List (List Int)}(hR:Red p w R)(hN:Rows p w N)(hl:N.length≤1000)(hw:w≤1000):∃E,F204 p N R=some E∧F131 p (N.map (rest p R))=some E∧EchOf p w (N.map (rest p R)) E:=by
 have hp0:0 < p:=by have:=hp.range; omega
 obtain⟨E,e1,e2,e3⟩:=reduce_same hp (rest_rows hp0 hR.ok hN) (by omega) (by rw[List.length_map]; omega);refine⟨E,?_,e1,e3⟩;unfold F204;rw[forR_map (rest p R) (by omega) (fun k hk s hsl=> by
  have hv:=hN _ (List.getElem_mem hk);unfold F204_1_B;rw[getI_nat hk,ob,F205_eq hp hR hv hw,ob,app_ok (by simp; simp at hsl; omega) (by simp; simp at hsl; omega),ob]) (by intro i s; rfl),ob,List.nil_append,e2,ob]
theorem lin_at{p:Int}{n:Nat}{v:List Int}{m:List (List Int)}(H:LinOK p n v m){j:Nat}(hj:j < n):Cg p (nth (lin p n v m) j) (dot (nth v) m v.length j):=by
 have key:∀i,i≤v.length→Cg p (nth (linN p n v m i) j) (dot (nth v) m i j):=by
  intro i;induction i with
  |zero=> intro _; simp only[linN]; rw[show nth (List.replicate n (0:Int)) j=0 from nth_zv n j]; exact .refl _ _
  |succ i ih=>
   intro hi;obtain⟨h1,h2⟩:=linN_ok H i (by omega);have hm:i < m.length:=by have:=H.hl; omega
   have hr:=H.hr _ (List.getElem_mem hm);have e1:v.getD i 0=v[i]:=by simp[show i < v.length by omega]
   have e2:m.getD i []=m[i]:=by simp[hm]
   have hx:=H.hv _ (List.getElem_mem (show i < v.length by omega));have ho:=h2 _ (List.getElem_mem (show j < (linN p n v m i).length by omega));have hy:=hr.2 _ (List.getElem_mem (show j < m[i].length by omega));obtain⟨-, -,t1, -⟩:=small_mul H.hp hx hy ho;have e3:nth (linN p n v m (i+1)) j=((linN p n v m i)[j]+v[i]*(m[i])[j]).tmod p:=by
    simp only[linN,e1,e2];rw[nth_lt (by unfold addRow; rw[List.length_zipWith,h1,hr.1]; omega)];simp[addRow]
   have h0:0≤(linN p n v m i)[j]+v[i]*(m[i])[j]:=by have:=Int.mul_nonneg hx.1 hy.1; omega
   rw[e3,Int.tmod_eq_emod_of_nonneg h0];refine(Cg.mod _ _).trans ?_;show Cg p _ (sumI _ (i+1));unfold sumI;refine .add ?_ ?_
   ·have:=ih (by omega)
    rwa[nth_lt (by omega)]at this
   ·rw[nth_lt (show i < v.length by omega),rowAt_lt hm,nth_lt (show j < m[i].length by omega)]; exact .refl _ _
 exact key v.length (Nat.le_refl _)
theorem F188_eq{p:Int}{w:Nat}(hp:IsP p){T B:List (List Int)}(hT:Red p w T)(hB:Red p w B){v:List Int}(hv:VecOK p w v)(hw:w≤1000):F188 p v T B=some (leadsOf T (rest p B v)):=by
 have hp0:0 < p:=by have:=hp.range; omega
 have hTl:=red_len hT;have hok:=rest_ok hp0 hB.ok hv;unfold F188;rw[F205_eq hp hB hv hw,ob,F101_eq hT hw,ob,forR_map (l:=T.map fun r=>(ld r:Int)) (fun i=> nth (rest p B v) i.toNat) (by simp; omega) (fun k hk s hsl=> by
  have hk':k < T.length:=by simpa using hk
  have hone:=hT.one _ (List.getElem_mem hk');unfold F188_1_B;rw[getI_nat hk,ob,List.getElem_map,nth_get (by rw[hok.len]; exact hone.1),ob,app_ok (by simp; simp at hsl; omega) (by simp; simp at hsl; omega),ob,Int.toNat_natCast]) (by intro i s; rfl),ob,List.nil_append]
 unfold leadsOf;rw[List.map_map];rfl
def LTells(o:Option (Unit⊕(Unit⊕Bool)))(P:Prop):Prop:=∃b:Bool,o=some (if b=true then .inl ()else .inr (.inr false))∧(b=true↔P)
theorem LTells.iff{o:Option (Unit⊕(Unit⊕Bool))}{P Q:Prop}(h:LTells o P)(e:P↔Q):LTells o Q:=by
 obtain⟨b,h1,h2⟩:=h; exact⟨b,h1,h2.trans e⟩
def WTells(o:Option (Int⊕(Unit⊕Bool)))(i:Int)(P:Prop):Prop:=∃b:Bool,o=some (if b=true then .inl (i+1)else .inr (.inr false))∧(b=true↔P)
theorem WTells.iff{o:Option (Int⊕(Unit⊕Bool))}{i:Int}{P Q:Prop}(h:WTells o i P)(e:P↔Q):WTells o i Q:=by
 obtain⟨b,h1,h2⟩:=h; exact⟨b,h1,h2.trans e⟩
theorem F272_eq{n i:Nat}(hi:i < n)(hn:n≤1000):F272 (n:Int) (i:Int)=some (unitv n i):=by
 unfold F272;rw[mkL_ok n rfl (by omega) (by omega),ob]
 change ((getI (zv n) (i:Int)).bind _)=_
 rw[getI_nat (by simpa[zv]using hi),ob]
 change ((setI (zv n) (i:Int) 1).bind _)=_
 rw[setI_nat (by simpa[zv]using hi),ob];rfl
theorem F173_eq{p k:Int}{w:Nat}(hp:2≤p∧p≤7)(hk:0≤k∧k < p){r o:List Int}(hr:VecOK p w r)(ho:VecOK p w o)(hw:w≤1000):F173 p r o k=some (subv p r o (-k)):=by
 have hl:=hr.len;have hol:=ho.len;unfold F173;rw[F96_eq (by omega),ob,show(o.length:Int)=(r.length:Int) by omega,idx_loop (l:=r) (B:=F173_1_B p o k) (D:=F173_1_D p o k) (fun i x=>(x - -k*nth o i)% p) (by omega) (fun i hi s hs hk'=>?_) (fun i s=> rfl),ob]
 ·congr 1
  have hsl:(subv p r o (-k)).length=w:=by simp[subv,hl,hol]
  apply List.ext_getElem (by simp[hl,hsl]);intro i h1 h2;have hi:i < w:=by omega
  have:=nth_sub (p:=p) (k:= -k) hl hol hi;rw[nth_lt h2,nth_lt (show i < r.length by omega)]at this;rw[this]; simp
 ·have h1:s[i]? =r[i]?:=by rw[hk' i,if_neg (Nat.lt_irrefl _)]
  have h2:s[i]'(by omega)=r[i]:=by
   have:=h1;rw[List.getElem?_eq_getElem (by omega),List.getElem?_eq_getElem hi]at this;exact Option.some.inj this
  have a1:=hr.rng i (by omega);rw[nth_lt hi]at a1;have a2:=ho.rng i (by omega);have hm:0≤k*nth o i∧k*nth o i≤49:=by
   refine⟨Int.mul_nonneg hk.1 a2.1,?_⟩;have:=Int.mul_le_mul (show k≤7 by omega) (show nth o i≤7 by omega) a2.1 (by decide);omega
  unfold F173_1_B;rw[nth_get (by omega),ob,getI_nat (show i < s.length by omega),ob,h2,chk_ok (by omega) (by omega),ob,chk_ok (by omega) (by omega),ob,remI_ok (by omega),ob,setI_nat (by omega),ob,tmod_pos (by omega),show r[i] - -k*nth o i=r[i]+k*nth o i by rw[Int.neg_mul]; omega]
def dc(x:GComplex)(n:Nat):Nat:=(x.Dims.getD n 0).toNat
theorem dc_le{x:GComplex}(h:ValidC x)(n:Nat):dc x n≤8:=by
 unfold dc;by_cases hn:n < x.Dims.length
 ·have:=h.dim hn; omega
 ·rw[List.getD_eq_getElem?_getD,List.getElem?_eq_none (by omega)]; simp
theorem dc_at{x:GComplex}(h:ValidC x){n:Nat}(hn:n < x.Dims.length):x.Dims.getD n 0=(dc x n:Int):=by
 have:=h.dim hn;unfold dc; omega
theorem F99_dc{x:GComplex}(hx:SmallC x)(h:ValidC x){n:Nat}(hn:n≤x.Dims.length):F99 x (n:Int)=some (dc x n:Int):=by
 have hd:=hx.d;by_cases c:n < x.Dims.length
 ·rw[F99_at hx.d c,dc_at h c]
 ·have e:n=x.Dims.length:=by omega
  subst e;have:dc x x.Dims.length=0:=by unfold dc; rw[List.getD_eq_getElem?_getD,List.getElem?_eq_none (by omega)]; rfl
  unfold F99;rw[chk_ok (by omega) (by omega),ob,F54_eq,ob,if_neg (by simp; omega),this];rfl
theorem F102_dc{x:GComplex}(hx:SmallC x)(h:ValidC x){n:Nat}(hn:n≤x.Dims.length):F102 x (n:Int)=some (dc x n:Int):=by
 have hd:=hx.d;by_cases c:n < x.Dims.length
 ·rw[F102_at hx.d c,dc_at h c]
 ·have e:n=x.Dims.length:=by omega
  subst e;have:dc x x.Dims.length=0:=by unfold dc; rw[List.getD_eq_getElem?_getD,List.getElem?_eq_none (by omega)]; rfl
  unfold F102;rw[F86_eq hx.d,ob,F56_eq,ob,if_neg (by simp; omega),this];rfl
theorem bounds_same{x:GComplex}(hx:SmallC x)(h:ValidC x){n:Nat}(hn:n < x.Dims.length):∃B,F251 x (n:Int)=some B∧F186 x (n:Int)=some B∧Red x.Prime (dc x n) B:=by
 have hd:=hx.d;have hml:=h.ml;have hdl:=h.dl;unfold F251 F186;rw[chk_ok (by omega) (by omega),ob,if_neg (by omega),F86_eq hx.d,ob];by_cases c:n+1 < x.Dims.length
 ·have ht:=h.tab n (by omega)
  have hr:Rows x.Prime (dc x n) (x.Maps.getD n []):=fun r hr=>(ht.2 r hr).vec;have hl:=ht.1;have hd1:=h.dim c;have:=dc_le h n;obtain⟨B,b1,b2,b3⟩:=reduce_same h.p hr (by omega) (by omega);rw[show(n:Int)+1=((n+1:Nat):Int) by omega,F76_eq hx.d c (by omega),ob,b1,ob,if_neg (by omega),getI_getD (show n < x.Maps.length by omega) [],ob,b2,ob];exact⟨B,rfl,rfl,b3.red⟩
 ·obtain⟨N,n1, -,n3⟩:=reduce_same (p:=x.Prime) (w:=dc x n) h.p (rows:=[]) (fun r hr=>(nomatch hr)) (by have:=dc_le h n; omega) (by simp)
  have hN:N=[]:=by have:=n3.same (by have:=h.p.range; omega) (EchOf.nil x.Prime (dc x n)); exact this
  subst hN;have e:F76 x ((n:Int)+1)=some []:=by
   unfold F76;rw[chk_ok (by omega) (by omega),ob,F54_eq,ob,if_neg (by simp; omega)];have h99:=F99_dc hx h (n:=n+1) (by omega);have h0:dc x (n+1)=0:=by unfold dc; rw[List.getD_eq_getElem?_getD,List.getElem?_eq_none (by omega)]; rfl
   rw[h0]at h99;obtain⟨t,g1,g2⟩:=loopW_inv (S:=F76_1_S x ((n:Int)+1)) (fun s=> 0) (fun s=> s=([],0)) (fun t=> t=[]) (s:=([],0)) rfl (by
    rintro s rfl;right;unfold F76_1_S;simp only;rw[show(n:Int)+1=((n+1:Nat):Int) by omega,h99,ob,if_neg (by simp)];exact⟨_,rfl,rfl⟩)
   rw[g1,ob,g2]
  rw[e,ob,n1,ob,if_pos (by omega)];exact⟨[],rfl,rfl,n3.red⟩
structure TabN (p:Int) (c w:Nat) (m:List (List Int)):Prop where
 len:m.length=c
 rows:Rows p w m
theorem TabN.of{p:Int}{c w:Nat}{m:List (List Int)}(T:TableOK p (c:Int) (w:Int) m):TabN p c w m:=⟨by have:=T.1; omega,fun r hr=>(T.2 r hr).vec⟩
theorem linT{p:Int}(hp:IsP p){c w:Nat}{m:List (List Int)}(T:TabN p c w m)(hc:c≤1000)(hw:w≤1000){v:List Int}(hv:VecOK p c v):F80 p m v (w:Int)=some (lin p w v m)∧F119 p (w:Int) v m=some (lin p w v m)∧VecOK p w (lin p w v m):=by
 have hvl:=hv.len;have hml:=T.len;have H:LinOK p w v m:=⟨hp.range,fun y hy=> by
  obtain⟨k,hk,rfl⟩:=List.getElem_of_mem hy;have:=hv.rng k (by omega)
  rwa[nth_lt hk]at this,by omega,fun l hl=>⟨(T.rows l hl).len,fun y hy=> by
  have hl':=T.rows l hl;have hll:=hl'.len;obtain⟨k,hk,rfl⟩:=List.getElem_of_mem hy;have:=hl'.rng k (by omega)
  rwa[nth_lt hk]at this⟩,by omega,by omega⟩
 refine⟨F80_eq H rfl,F119_eq H rfl,?_⟩;have hok:=linN_ok H v.length (Nat.le_refl _);refine⟨hok.1,fun j hj=>?_⟩;have hj':j < (lin p w v m).length:=by rw[lin_len H]; exact hj
 rw[nth_lt hj'];exact hok.2 _ (List.getElem_mem hj')
def hN(c:GContraction)(n:Nat):Nat:=(c.Up.getD n []).length
def bkF(x:GComplex)(c:GContraction)(n:Nat)(v:List Int):List Int:=lin x.Prime (dc x (n+1)) v (c.Back.getD n [])
def dfF(x:GComplex)(n:Nat)(v:List Int):List Int:=if n=0 then []else lin x.Prime (dc x (n - 1)) v (x.Maps.getD (n - 1) [])
def Zr(l:List Int):Prop:=∀y∈l,y=0
def first(x:GComplex)(c:GContraction)(n:Nat)(v:List Int):List Int:=if n+1 < x.Dims.length then dfF x (n+1) (bkF x c n v)else zv (dc x n)
theorem units_at{n i:Nat}(h:i < (units n).length):(units n)[i]=unitv n i:=by simp[units]
structure PT (s0 ms:T3s) (φ:Nat→Nat→Nat→Nat×Nat×Nat) (val:Nat→Nat→Nat→Int) (D:Nat→Nat→Nat→Prop) (s:T3s):Prop where
 shp:Shp s s0
 at':∀k i j,InT ms k i j→(D k i j→numAt s (φ k i j).1 (φ k i j).2.1 (φ k i j).2.2=val k i j)∧(¬D k i j→numAt s (φ k i j).1 (φ k i j).2.1 (φ k i j).2.2=numAt s0 (φ k i j).1 (φ k i j).2.1 (φ k i j).2.2)
 out:∀a b c,InT s0 a b c→(∀k i j,InT ms k i j→φ k i j≠(a,b,c))→numAt s a b c=numAt s0 a b c
theorem PT.imp{s0 ms:T3s}{φ:Nat→Nat→Nat→Nat×Nat×Nat}{val:Nat→Nat→Nat→Int}{D D':Nat→Nat→Nat→Prop}{s:T3s}(h:PT s0 ms φ val D s)(hd:∀k i j,InT ms k i j→(D k i j↔D' k i j)):PT s0 ms φ val D' s:=
 ⟨h.shp,fun k i j hin=>⟨fun d=>(h.at' k i j hin).1 ((hd k i j hin).2 d),fun d=>(h.at' k i j hin).2 fun x=> d ((hd k i j hin).1 x)⟩,h.out⟩
theorem PT.zero{s0 ms:T3s}{φ:Nat→Nat→Nat→Nat×Nat×Nat}{val:Nat→Nat→Nat→Int}:PT s0 ms φ val (fun _ _ _=> False) s0:=⟨.refl _,fun k i j _=>⟨fun x=> x.elim,fun _=> rfl⟩,fun _ _ _ _ _=> rfl⟩
theorem dc_out{x:GComplex}{n:Nat}(h:x.Dims.length≤n):dc x n=0:=by
 unfold dc; rw[List.getD_eq_getElem?_getD,List.getElem?_eq_none h]; rfl
theorem row_ok{p:Int}{c w:Nat}{m:List (List Int)}(T:TabN p c w m){i:Nat}(h:i < c):VecOK p w (rowAt m i):=T.rows _ (row_mem (by rw[T.len]; exact h))
theorem maps_tab{x:GComplex}(h:ValidC x){k:Nat}(hk:k+1 < x.Dims.length):TabN x.Prime (dc x (k+1)) (dc x k) (x.Maps.getD k []):= .of (by
 have:=h.tab k (by have:=h.ml; omega);unfold TabAt at this
 rwa[dc_at h hk,dc_at h (show k < x.Dims.length by omega)]at this)
structure WideC (x:GComplex):Prop where
 p:IsP x.Prime
 dl:1≤x.Dims.length∧x.Dims.length≤100
 ml:x.Maps.length+1=x.Dims.length
 dims:∀d∈x.Dims,0≤d∧d≤100
 tab:∀k,k < x.Maps.length→TabAt x k
theorem WideC.dim{x:GComplex}(h:WideC x){n:Nat}(hn:n < x.Dims.length):0≤x.Dims.getD n 0∧x.Dims.getD n 0≤100:=h.dims _ (getD_mem hn 0)
theorem lin_okof{p:Int}(hp:IsP p){c w:Nat}{m:List (List Int)}(hml:m.length=c)(hm:Rows p w m)(hc:c≤1000)(hw:w≤1000){v:List Int}(hv:VecOK p c v):LinOK p w v m:=by
 have hvl:=hv.len;exact⟨hp.range,fun y hy=> by
  obtain⟨k,hk,rfl⟩:=List.getElem_of_mem hy;have:=hv.rng k (by omega)
  rwa[nth_lt hk]at this,by omega,fun l hl=>⟨(hm l hl).len,fun y hy=> by
  have hl':=hm l hl;have hll:=hl'.len;obtain⟨k,hk,rfl⟩:=List.getElem_of_mem hy;have:=hl'.rng k (by omega)
  rwa[nth_lt hk]at this⟩,by omega,by omega⟩
theorem lin_vec{p:Int}{w:Nat}{m:List (List Int)}{v:List Int}(H:LinOK p w v m):VecOK p w (lin p w v m):=by
 have hok:=linN_ok H v.length (Nat.le_refl _);refine⟨hok.1,fun j hj=>?_⟩;have hj':j < (lin p w v m).length:=by rw[lin_len H]; exact hj
 rw[nth_lt hj'];exact hok.2 _ (List.getElem_mem hj')
theorem nth_take{l:List Int}{k j:Nat}(h:j < k):nth (l.take k) j=nth l j:=by
 unfold nth;rw[List.getD_eq_getElem?_getD,List.getD_eq_getElem?_getD,List.getElem?_take_of_lt h]
def turnF(x:GComplex)(c:GContraction)(ms:T3s)(n:Nat)(v:List Int):List Int:=if n+1 < x.Dims.length then lin x.Prime (dc x n) (bkF x c n v) (ms.getD n [])else zv (dc x n)
def itr(x:GComplex)(c:GContraction)(ms:T3s)(n:Nat)(v:List Int):Nat→List Int
 |0=> v
 |k+1=> turnF x c ms n (itr x c ms n v k)
structure Rds (x:GComplex) (c:GContraction) (ms:T3s) (S:Nat→Nat→Prop) (o:Nat):Prop where
 le:o≤9
 all:∀n i,S n i→n < x.Dims.length→i < dc x n→Zr (itr x c ms n (unitv (dc x n) i) o)
 least:∀k,k < o→∃n i,S n i∧n < x.Dims.length∧i < dc x n∧¬Zr (itr x c ms n (unitv (dc x n) i) k)
theorem Rds.imp{x:GComplex}{c:GContraction}{ms:T3s}{S S':Nat→Nat→Prop}{o:Nat}(h:Rds x c ms S o)(e:∀a b,a < x.Dims.length→b < dc x a→(S a b↔S' a b)):Rds x c ms S' o:=
 ⟨h.le,fun a b q ha hb=> h.all a b ((e a b ha hb).2 q) ha hb,fun k hk=> by
  obtain⟨a,b,q1,q2,q3,q4⟩:=h.least k hk;exact⟨a,b,(e a b q2 q3).1 q1,q2,q3,q4⟩⟩
theorem appZ_ok{l:List Int}{n:Nat}(h1:l.length≤1000)(h2:n≤1000):appZ 8 l (n:Int) 0=some (l++zv n):=by
 unfold appZ;rw[if_pos (by omega),Int.toNat_natCast,app_ok (by simp; omega) (by simp; omega)];rfl
theorem F335_eq{p:Int}{w:Nat}(hp:2≤p∧p≤7){v u:List Int}(hv:VecOK p w v)(hu:VecOK p w u)(hw:w≤1000):F335 p v u=some (subv p v u 1):=by
 have hl:=hv.len;have hul:=hu.len;have hsl:(subv p v u 1).length=w:=by simp[subv,hl,hul]
 unfold F335;obtain⟨t,g1,g2⟩:=forR_inv (B:=F335_1_B p v u) (D:=F335_1_D p v u) v.length rfl (by omega) (fun i s=> s=(subv p v u 1).take i) (fun t=> t=subv p v u 1) (s:=[]) (by simp) (by
  rintro i s hi rfl;left;have hiw:i < w:=by omega
  have h1:=hv.rng i hiw;have h2:=hu.rng i hiw;refine⟨(subv p v u 1).take (i+1),?_,rfl⟩;unfold F335_1_B;rw[nth_get hi,ob,nth_get (by omega),ob,chk_ok (by omega) (by omega),ob,F127_eq hp,ob,app_ok (by simp; omega) (by simp; omega),ob]
  congr 2
  rw[←List.take_append_getElem (show i < (subv p v u 1).length by omega)]
  congr 2
  have:=nth_sub (p:=p) (k:=1) hl hul hiw;rw[nth_lt (by omega),Int.one_mul]at this;exact this.symm) (by
  rintro s rfl;refine⟨_,rfl,?_⟩;rw[List.take_of_length_le (by omega)])
 rw[g1,ob,g2]
theorem sub_m1{p:Int}{w:Nat}(hp0:0 < p){v u:List Int}(hv:VecOK p w v)(hu:VecOK p w u):subv p v u (-(p - 1))=subv p v u 1:=
 (sub_ok hp0 hv.len hu.len).ext (sub_ok hp0 hv.len hu.len) fun j hj=>(sub_cg hv.len hu.len hj).trans (Cg.trans ⟨nth u j,by grind⟩ (sub_cg hv.len hu.len hj).symm)
theorem rest_loop{x:GComplex}{p:Int}(hpx:x.Prime=p){w:Nat}(hp:2≤p∧p≤7){K B:List (List Int)}(hB:Red p w B)(hK:Rows p w K)(hl:K.length≤1000)(hbl:B.length≤1000)(hw:w≤1000):forR 0 (K.length:Int) (F250_1_B x K B) (F250_1_D x K B) []=some (K.map (rest p B)):=by
 obtain⟨t,g1,g2⟩:=forR_inv (B:=F250_1_B x K B) (D:=F250_1_D x K B) K.length rfl (by omega) (fun i s=> s=(K.take i).map (rest p B)) (fun t=> t=K.map (rest p B)) (s:=[]) (by simp) (by
  rintro i s hi rfl;left;unfold F250_1_B;rw[getI_nat hi,ob,hpx,F134_eq hp hB (hK _ (List.getElem_mem hi)) (by omega) (by omega),ob,app_ok (by simp; omega) (by simp; omega),ob];exact⟨_,rfl,by rw[←List.take_append_getElem hi,List.map_append]; rfl⟩) (by
  rintro s rfl;exact⟨_,rfl,by rw[List.take_length]⟩)
 rw[g1,g2]
theorem holes_same{x:GComplex}(hx:SmallC x)(h:ValidC x){n:Nat}(hn:n < x.Dims.length):∃E,F250 x (n:Int)=some E∧F189 x (n:Int)=some E∧Red x.Prime (dc x n) E:=by
 have hp:=h.p.range;have hd:=dc_le h n;obtain⟨K,k1,k2,k3⟩:=cycles_same hx h hn;obtain⟨B,b1,b2,b3⟩:=bounds_same hx h hn;have k3':Red x.Prime (dc x n) K:=k3;have hkl:=red_len k3';have hbl:=red_len b3;obtain⟨E,e1,e2,e3⟩:=F204_eq h.p b3 k3'.ok (by omega) (by omega);unfold F250 F189;rw[k1,k2,ob,ob,b1,b2,ob,ob,rest_loop rfl hp b3 k3'.ok (by omega) (by omega) (by omega),ob,e1,e2,ob];exact⟨E,rfl,rfl,e3.red⟩
theorem split_same{x:GComplex}(hx:SmallC x)(h:ValidC x){n:Nat}(hn:n < x.Dims.length){v:List Int}(hv:VecOK x.Prime (dc x n) v):∃b u w,F333 x (n:Int) v=some [b,u,w]∧F191 x (n:Int) v=some ⟨b,u,w⟩∧VecOK x.Prime (dc x n) b∧VecOK x.Prime (dc x n) u:=by
 have hp:=h.p.range;have hp0:0 < x.Prime:=by omega
 have hd:=dc_le h n;obtain⟨K,k1,k2,k3⟩:=cycles_same hx h hn;obtain⟨B,b1,b2,b3⟩:=bounds_same hx h hn;have k3':Red x.Prime (dc x n) K:=k3;have hkl:=red_len k3';have hbl:=red_len b3;have w1:=rest_ok hp0 k3'.ok hv;have c1:=sub_ok (k:=1) hp0 hv.len w1.len;have u1:=rest_ok hp0 b3.ok c1;have b1':=sub_ok (k:=1) hp0 c1.len u1.len;unfold F333 F191;rw[k1,k2,ob,ob,F134_eq hp k3' hv (by omega) (by omega),F205_eq h.p k3' hv (by omega),ob,ob,F335_eq hp hv w1 (by omega),ob,chk_ok (by omega) (by omega),ob,F173_eq hp (by omega) hv w1 (by omega),sub_m1 hp0 hv w1,ob,b1,b2,ob,ob,F134_eq hp b3 c1 (by omega) (by omega),F205_eq h.p b3 c1 (by omega),ob,ob,F335_eq hp c1 u1 (by omega),F173_eq hp (by omega) c1 u1 (by omega),sub_m1 hp0 c1 u1,ob,ob];exact⟨_,_,_,rfl,rfl,b1',u1⟩
theorem freeOf_rng{K:List (List Int)}{n:Nat}{y:Int}(h:y∈freeOf K n):0≤y∧y < n:=by
 unfold freeOf at h;obtain⟨i,hi,rfl⟩:=List.mem_map.1 h;have:=List.mem_range.1 (List.mem_filter.1 hi).1;omega
theorem freeOf_nodup{K:List (List Int)}{n:Nat}:(freeOf K n).Pairwise (·≠ ·):=by
 unfold freeOf;rw[List.pairwise_map];exact(List.Pairwise.filter _ List.nodup_range).imp fun h e=> h (by omega)
def heads(w:Nat)(E:List (List Int)):List (List Int):=E.filter fun r=> decide (ld r < w)
theorem heads_take{w i:Nat}{E:List (List Int)}(hi:i < E.length):heads w (E.take (i+1))=if ld E[i] < w then heads w (E.take i)++[E[i]]else heads w (E.take i):=by
 unfold heads;rw[←List.take_append_getElem hi,List.filter_append];by_cases c:ld E[i] < w
 ·rw[if_pos c]; simp[c]
 ·rw[if_neg c]; simp[c]
theorem ld_take{r:List Int}{w:Nat}(h:ld r < w)(hl:ld r < r.length):ld (r.take w)=ld r:=ld_of (fun j hj=> by rw[nth_take (by omega)]; exact ld_zero hj) (by rw[nth_take h]; exact ld_ne hl)
theorem heads_red{p:Int}{w n:Nat}{E:List (List Int)}(h:Red p (w+n) E):Red p w ((heads w E).map (List.take w)):=by
 have hm:∀r∈heads w E,r∈E∧ld r < w:=fun r hr=>⟨(List.mem_filter.1 hr).1,by simpa using(List.mem_filter.1 hr).2⟩;refine⟨fun r hr=>?_,fun r hr=>?_,?_⟩
 ·obtain⟨s,hs,rfl⟩:=List.mem_map.1 hr
  have ho:=h.ok s (hm s hs).1;exact⟨by rw[List.length_take,ho.len]; omega,fun j hj=> by rw[nth_take hj]; exact ho.rng j (by omega)⟩
 ·obtain⟨s,hs,rfl⟩:=List.mem_map.1 hr
  obtain⟨h1,h2⟩:=hm s hs;have ho:=h.one s h1;rw[ld_take h2 (by rw[(h.ok s h1).len]; omega),nth_take h2];exact⟨h2,ho.2⟩
 ·rw[List.pairwise_map]
  refine(h.ord.filter _).imp_of_mem fun {r s} hr hs q=>?_;obtain⟨r1,r2⟩:=hm r hr;obtain⟨s1,s2⟩:=hm s hs;rw[ld_take r2 (by rw[(h.ok r r1).len]; omega),ld_take s2 (by rw[(h.ok s s1).len]; omega),nth_take s2];exact q
theorem zero_take{p:Int}{w n:Nat}{r:List Int}(hr:VecOK p (w+n) r):(∀y∈r.take w,y=0)↔¬ld r < w:=by
 have hl:=hr.len;constructor
 ·intro h c
  have hlt:ld r < (r.take w).length:=by rw[List.length_take]; omega
  have:=h (r.take w)[ld r] (List.getElem_mem hlt);rw[List.getElem_take]at this;have hn:=ld_ne (r:=r) (by omega);rw[nth_lt (by omega)]at hn;exact hn this
 ·intro c y hy
  obtain⟨j,hj,rfl⟩:=List.getElem_of_mem hy;rw[List.length_take]at hj;rw[List.getElem_take,←nth_lt];exact ld_zero (by omega)
theorem F190_2_loop{p:Int}{w n:Nat}{E:List (List Int)}(hE:Red p (w+n) E)(hl:E.length≤1000)(hw:w+n≤1000):forR 0 (E.length:Int) (F190_2_B (w:Int) E) (F190_2_D (w:Int) E) ([],[])=some ((heads w E).map (List.take w),(heads w E).map (List.drop w)):=by
 have hlen:∀i,(heads w (E.take i)).length≤E.length:=fun i=> Nat.le_trans (List.length_filter_le _ _) (by rw[List.length_take]; omega);obtain⟨t,g1,g2⟩:=forR_inv (B:=F190_2_B (w:Int) E) (D:=F190_2_D (w:Int) E) E.length rfl (by omega) (fun i s=> s=((heads w (E.take i)).map (List.take w),(heads w (E.take i)).map (List.drop w))) (fun t=> t=((heads w E).map (List.take w),(heads w E).map (List.drop w))) (s:=([],[])) (by simp[heads]) (by
  rintro i s hi rfl;left;have ho:=hE.ok _ (List.getElem_mem hi);have hol:=ho.len;have h1:=hlen i;have s1:slI E[i] 0 (w:Int)=some (E[i].take w):=by unfold slI; rw[if_pos ⟨by decide,by omega,by omega⟩]; simp
  have s2:slI E[i] (w:Int) (E[i].length:Int)=some (E[i].drop w):=by unfold slI; rw[if_pos ⟨by omega,by omega,by omega⟩,Int.toNat_natCast,Int.toNat_natCast,List.take_length]
  obtain⟨b,e1,q⟩:=F92_tells (l:=E[i].take w) (by rw[List.length_take]; omega);have hz:=zero_take ho;have ht:=heads_take (w:=w) hi;unfold F190_2_B;simp only;rw[getI_nat hi,ob,s1,ob,e1,ob];cases b with
  |true=>
   rw[if_pos rfl];rw[if_neg (hz.1 (q.1 rfl))]at ht;exact⟨_,rfl,by rw[ht]⟩
  |false=>
   rw[if_neg Bool.false_ne_true];have hc:ld E[i] < w:=Classical.not_not.1 fun c=> by have:=q.2 (hz.2 c); cases this
   rw[if_pos hc]at ht;rw[F96_eq (by rw[List.length_take]; omega),ob,app_ok (by simp; omega) (by simp; omega),ob,s2,ob,F96_eq (by rw[List.length_drop]; omega),ob,app_ok (by simp; omega) (by simp; omega),ob];exact⟨_,rfl,by rw[ht,List.map_append,List.map_append]; rfl⟩) (by
  rintro s rfl;exact⟨_,rfl,by rw[List.take_length]⟩)
 rw[g1,g2]
structure Plc (fr:List Int) (d:Nat) (g:Nat→Int) (s:List Int):Prop where
 len:s.length=d
 at_:∀i,i < fr.length→nth s (fr.getD i 0).toNat=g i
 out:∀q,(∀i,i < fr.length→(fr.getD i 0).toNat≠q)→nth s q=0
structure Plcs (fr:List Int) (d:Nat):Prop where
 rng:∀y∈fr,0≤y∧y < (d:Int)
 dis:fr.Pairwise (·≠ ·)
theorem Plcs.at_{fr:List Int}{d:Nat}(P:Plcs fr d){i:Nat}(h:i < fr.length):0≤fr.getD i 0∧fr.getD i 0 < (d:Int):=P.rng _ (getD_mem h 0)
theorem Plcs.ne{fr:List Int}{d:Nat}(P:Plcs fr d){i j:Nat}(hi:i < fr.length)(hj:j < fr.length)(h:i≠j):(fr.getD i 0).toNat≠(fr.getD j 0).toNat:=by
 have a:=P.at_ hi;have b:=P.at_ hj;have key:∀i j,(hi:i < fr.length)→(hj:j < fr.length)→i < j→fr.getD i 0≠fr.getD j 0:=fun i j hi hj h=> by
  have:=List.pairwise_iff_getElem.1 P.dis i j hi hj h;rw[List.getD_eq_getElem?_getD,List.getElem?_eq_getElem hi,List.getD_eq_getElem?_getD,List.getElem?_eq_getElem hj];exact this
 rcases Nat.lt_or_gt_of_ne h with c|c
 ·have:=key i j hi hj c; omega
 ·have:=key j i hj hi c; omega
theorem Plc.zero{fr:List Int}{d:Nat}{g:Nat→Int}(hg:∀i,i < fr.length→g i=0):Plc fr d g (zv d):=⟨by simp[zv],fun i hi=> by rw[nth_zv,hg i hi],fun q _=> nth_zv _ _⟩
theorem nth_setP{s:List Int}{i j:Nat}{a:Int}(h:i < s.length):nth (s.set i a) j=if i=j then a else nth s j:=by
 unfold nth;rw[List.getD_eq_getElem?_getD,List.getD_eq_getElem?_getD,List.getElem?_set];by_cases c:i=j
 ·subst c; rw[if_pos rfl,if_pos rfl,if_pos h]; rfl
 ·rw[if_neg c,if_neg c]
theorem Plc.set{fr:List Int}{d:Nat}{g:Nat→Int}{s:List Int}(P:Plcs fr d)(h:Plc fr d g s){i:Nat}(hi:i < fr.length){a:Int}{g':Nat→Int}(e1:g' i=a)(e2:∀k,k < fr.length→k≠i→g' k=g k):Plc fr d g' (s.set (fr.getD i 0).toNat a):=by
 have hr:=P.at_ hi;have hl:=h.len;refine⟨by rw[List.length_set]; exact hl,fun k hk=>?_,fun q hq=>?_⟩
 ·rw[nth_setP (by omega)]
  by_cases c:k=i
  ·subst c; rw[if_pos rfl,e1]
  ·rw[if_neg (P.ne hi hk (Ne.symm c)),h.at_ k hk,e2 k hk c]
 ·rw[nth_setP (by omega),if_neg (hq i hi),h.out q hq]
theorem Plc.congr{fr:List Int}{d:Nat}{g g':Nat→Int}{s:List Int}(h:Plc fr d g s)(e:∀k,k < fr.length→g' k=g k):Plc fr d g' s:=⟨h.len,fun i hi=> by rw[h.at_ i hi,e i hi],h.out⟩
theorem Plc.eq{fr:List Int}{d:Nat}{g:Nat→Int}{s t:List Int}(h:Plc fr d g s)(k:Plc fr d g t):s=t:=by
 have hl:=h.len;have kl:=k.len;refine List.ext_getElem (by omega) fun q h1 h2=>?_;rw[←nth_lt h1,←nth_lt h2];by_cases c:∃i,i < fr.length∧(fr.getD i 0).toNat=q
 ·obtain⟨i,hi,rfl⟩:=c
  rw[h.at_ i hi,k.at_ i hi]
 ·rw[h.out q fun i hi e=> c ⟨i,hi,e⟩,k.out q fun i hi e=> c ⟨i,hi,e⟩]
theorem F334_2_loop{x:GComplex}{p:Int}(hp:2≤p∧p≤7)(hpx:x.Prime=p){b fr u:List Int}{d w:Nat}(P:Plcs fr d)(hb:b.length=w)(hu:VecOK p (w+fr.length) u)(hw:w+fr.length≤1000)(hd:d≤1000):
  ∃s,forR 0 (fr.length:Int) (F334_2_B x b fr u) (F334_2_D x b fr u) (zv d)=some s∧Plc fr d (fun i=>(-(nth u (w+i)))% p) s:=by
 obtain⟨t,g1,g2⟩:=forR_inv (B:=F334_2_B x b fr u) (D:=F334_2_D x b fr u) fr.length rfl (by omega) (fun i s=> Plc fr d (fun k=> if k < i then(-(nth u (w+k)))% p else 0) s) (fun t=> Plc fr d (fun i=>(-(nth u (w+i)))% p) t) (s:=zv d) (Plc.zero fun i hi=> by simp) (by
  intro i s hi hI;left;have hr:=P.at_ hi;have hul:=hu.len;have hx:=hu.rng (w+i) (by omega);have hsl:=hI.len;obtain⟨f,hf⟩:=Int.eq_ofNat_of_zero_le hr.1;have hfd:f < d:=by omega
  unfold F334_2_B;rw[getI_getD hi 0,ob,chk_ok (by omega) (by omega),ob,hb,show(w:Int)+(i:Int)=((w+i:Nat):Int) by omega,nth_get (by omega),ob,chk_ok (by omega) (by omega),ob,hpx,F127_eq hp,ob,hf,getI_nat (show f < s.length by omega),ob,setI_nat (by omega),ob];refine⟨_,rfl,?_⟩;have:=hI.set P hi (a:=(0 - nth u (w+i))% p) (g':=fun k=> if k < i+1 then(-(nth u (w+k)))% p else 0) (by simp) (fun k hk hne=> by
   by_cases c:k < i
   ·rw[if_pos c,if_pos (by omega)]
   ·rw[if_neg c,if_neg (by omega)])
  rw[hf]at this;exact this) (by
  intro s hI;exact⟨s,rfl,hI.congr fun k hk=> by rw[if_pos hk]⟩)
 exact⟨t,g1,g2⟩
theorem F171_5_loop{x:GComplex}{p:Int}(hp:2≤p∧p≤7)(hpx:x.Prime=p){fr f:List Int}{d:Nat}(P:Plcs fr d)(hf:VecOK p fr.length f)(hd:d≤1000)(hfl:fr.length≤1000){g:Nat→Int}(hg:∀i,i < fr.length→0≤g i∧g i < p){by':Int}(hby:0≤by'∧by' < p){s:List Int}(hs:Plc fr d g s)
  (o2 o3 o4:T3s) (v31:Int) (x9:List (List Int)) (x31:T2 (List (List Int)) (List (List Int))) (x33 o8:List (List Int)) (v78:Int) (x44:List Int) (l47:List (List Int)) (x53:List Int) (v107:Int):
  ∃t,forR 0 (f.length:Int) (F171_5_B x o2 o3 o4 v31 x9 fr x31 x33 o8 v78 x44 l47 x53 v107 by' f) (F171_5_D x o2 o3 o4 v31 x9 fr x31 x33 o8 v78 x44 l47 x53 v107 by' f) s=some t∧Plc fr d (fun i=>(g i+by'*nth f i)% p) t:=by
 have hl:=hf.len;obtain⟨t,g1,g2⟩:=forR_inv (B:=F171_5_B x o2 o3 o4 v31 x9 fr x31 x33 o8 v78 x44 l47 x53 v107 by' f) (D:=F171_5_D x o2 o3 o4 v31 x9 fr x31 x33 o8 v78 x44 l47 x53 v107 by' f) f.length rfl (by omega) (fun i s=> Plc fr d (fun k=> if k < i then(g k+by'*nth f k)% p else g k) s) (fun t=> Plc fr d (fun i=>(g i+by'*nth f i)% p) t) (s:=s) (hs.congr fun k hk=> by simp) (by
  intro i s hi hI;left;have hif:i < fr.length:=by omega
  have hr:=P.at_ hif;have hsl:=hI.len;have ha:=hI.at_ i hif;rw[if_neg (Nat.lt_irrefl _)]at ha;have h1:=hg i hif;have h2:=hf.rng i hif;have hm:=rng_mul hp hby h2;obtain⟨q,hq⟩:=Int.eq_ofNat_of_zero_le hr.1;have hqd:q < d:=by omega
  rw[hq,Int.toNat_natCast]at ha;unfold F171_5_B;rw[nth_get hi,ob,getI_getD hif 0,ob,hq,nth_get (by omega),ha,ob,chk_ok (by omega) (by omega),ob,chk_ok (by omega) (by omega),ob,hpx,remI_ok (by omega),ob,setI_nat (by omega),ob,tmod_pos (by omega)];refine⟨_,rfl,?_⟩;have:=hI.set P hif (a:=(g i+by'*nth f i)% p) (g':=fun k=> if k < i+1 then(g k+by'*nth f k)% p else g k) (by simp) (fun k hk hne=> by
   by_cases c:k < i
   ·rw[if_pos c,if_pos (by omega)]
   ·rw[if_neg c,if_neg (by omega)])
  rw[hq]at this;exact this) (by
  intro s hI;exact⟨s,rfl,hI.congr fun k hk=> by rw[if_pos (by omega)]⟩)
 exact⟨t,g1,g2⟩
def sumK(c:List Int)(F:List (List Int))(i:Nat):Nat→Int
 |0=> 0
 |k+1=> sumK c F i k+nth c k*nth (F.getD k []) i
theorem F171_4_loop{x:GComplex}{p:Int}(hp:2≤p∧p≤7)(hpx:x.Prime=p){fr c:List Int}{d:Nat}(P:Plcs fr d){M Fm:List (List Int)}(hF:Rows p fr.length Fm)(hc:VecOK p Fm.length c)(hd:d≤1000)(hfl:fr.length≤1000)(hFl:Fm.length≤1000)
  (o2 o3 o4:T3s) (v31:Int) (x9:List (List Int)) (x33 o8:List (List Int)) (v78:Int) (x44:List Int) (l47:List (List Int)):
  ∃t,forR 0 (c.length:Int) (F171_4_B x o2 o3 o4 v31 x9 fr ⟨M,Fm⟩ x33 o8 v78 x44 l47 c) (F171_4_D x o2 o3 o4 v31 x9 fr ⟨M,Fm⟩ x33 o8 v78 x44 l47 c) (zv d)=some t∧Plc fr d (fun i=> sumK c Fm i Fm.length% p) t:=by
 have hl:=hc.len;obtain⟨t,g1,g2⟩:=forR_inv (B:=F171_4_B x o2 o3 o4 v31 x9 fr ⟨M,Fm⟩ x33 o8 v78 x44 l47 c) (D:=F171_4_D x o2 o3 o4 v31 x9 fr ⟨M,Fm⟩ x33 o8 v78 x44 l47 c) c.length rfl (by omega) (fun k s=> Plc fr d (fun i=> sumK c Fm i k% p) s) (fun t=> Plc fr d (fun i=> sumK c Fm i Fm.length% p) t) (s:=zv d) (Plc.zero fun i hi=> by simp[sumK]) (by
  intro k s hk hI;left;have hkF:k < Fm.length:=by omega
  have hby:=hc.rng k hkF;unfold F171_4_B;rw[nth_get hk,ob]
  change∃s',(((getI Fm (k:Int)).bind _)=some (Sum.inl s'))∧_
  rw[getI_getD hkF [],ob];obtain⟨t,h1,h2⟩:=F171_5_loop hp hpx P (hF _ (getD_mem hkF [])) hd hfl (g:=fun i=> sumK c Fm i k% p) (fun i hi=>⟨Int.emod_nonneg _ (by omega),Int.emod_lt_of_pos _ (by omega)⟩) hby hI o2 o3 o4 v31 x9 ⟨M,Fm⟩ x33 o8 v78 x44 l47 c (k:Int);rw[h1,ob];refine⟨_,rfl,h2.congr fun i hi=>?_⟩;show(sumK c Fm i k+nth c k*nth (Fm.getD k []) i)% p=(sumK c Fm i k% p+nth c k*nth (Fm.getD k []) i)% p;rw[Int.emod_add_emod]) (by
  intro s hI;exact⟨s,rfl,by rw[←hl]; exact hI⟩)
 exact⟨t,g1,g2⟩
theorem comb_snoc{R:List (List Int)}{r v:List Int}{j:Nat}:comb (R++[r]) v j=comb R v j+nth v (ld r)*nth r j:=by
 induction R with
 |nil=> simp[comb]
 |cons a R ih=>
  show nth v (ld a)*nth a j+comb (R++[r]) v j=nth v (ld a)*nth a j+comb R v j+nth v (ld r)*nth r j;rw[ih]; omega
theorem comb_heads{w j:Nat}{v:List Int}(hz:∀q,w≤q→nth v q=0):∀ {E:List (List Int)},comb E v j=comb (heads w E) v j
 | []=> rfl
 |r::E=> by
  show nth v (ld r)*nth r j+comb E v j=_;unfold heads;by_cases c:ld r < w
  ·rw[List.filter_cons_of_pos (by simpa using c)]
   show _=nth v (ld r)*nth r j+comb (heads w E) v j;rw[comb_heads hz]
  ·rw[List.filter_cons_of_neg (by simpa using c),hz _ (by omega),Int.zero_mul,Int.zero_add]
   exact comb_heads hz
theorem sumK_comb{w i:Nat}{b v:List Int}{H:List (List Int)}(hb:∀q,q < w→nth v q=nth b q)(hH:∀r∈H,ld r < w∧ld r < r.length):∀k,k≤H.length→sumK (leadsOf (H.map (List.take w)) b) (H.map (List.drop w)) i k=comb (H.take k) v (w+i)
 |0,_=> by simp[sumK,comb]
 |k+1,hk=> by
  have hkl:k < H.length:=by omega
  obtain⟨h1,h2⟩:=hH _ (List.getElem_mem hkl);have e1:nth (leadsOf (H.map (List.take w)) b) k=nth v (ld H[k]):=by
   unfold leadsOf;rw[nth_lt (by simp; omega),List.getElem_map,List.getElem_map,ld_take h1 h2,hb _ h1]
  have e2:(H.map (List.drop w)).getD k []=H[k].drop w:=by
   rw[List.getD_eq_getElem?_getD,List.getElem?_eq_getElem (by simpa using hkl),List.getElem_map]; rfl
  show sumK _ _ i k+nth _ k*nth (List.getD _ k []) i=_;rw[sumK_comb hb hH k (by omega),e1,e2,nth_drop,←List.take_append_getElem hkl,comb_snoc]
theorem coef_eq{p:Int}{w m:Nat}(hp:0 < p){E:List (List Int)}(hE:Red p (w+m) E){b:List Int}(hb:VecOK p w b){i:Nat}(hi:i < m):
  (-(nth (rest p E (b++zv m)) (w+i)))% p=sumK (leadsOf ((heads w E).map (List.take w)) b) ((heads w E).map (List.drop w)) i (heads w E).length% p:=by
 have hbl:=hb.len;have hv:VecOK p (w+m) (b++zv m):=⟨by simp[zv,hbl],fun j hj=> by
  rw[nth_app];split
  ·exact hb.rng j (by omega)
  ·rw[nth_zv]; omega⟩
 have hz:∀q,w≤q→nth (b++zv m) q=0:=fun q hq=> by rw[nth_app,if_neg (by omega),nth_zv]
 have h1:=rest_comb hp hE hv (j:=w+i) (by omega);rw[hz _ (by omega)]at h1;have hm:∀r∈heads w E,ld r < w∧ld r < r.length:=fun r hr=> by
  have h2:ld r < w:=by simpa using(List.mem_filter.1 hr).2
  have:=(hE.ok r (List.mem_filter.1 hr).1).len;exact⟨h2,by omega⟩
 rw[sumK_comb (v:=b++zv m) (fun q hq=> by rw[nth_app,if_pos (by omega)]) hm _ (Nat.le_refl _),List.take_length,←comb_heads hz];obtain⟨c,hc⟩:=h1;exact Cg.emod ⟨-c,by grind⟩
theorem F132_eq{n i:Nat}(hi:i < n)(hn:n≤1000):F132 (n:Int) (i:Int)=some (unitv n i):=F272_eq hi hn
theorem longs_take{m:Nat}{tb:List (List Int)}{i:Nat}(hi:i < m):(longs m tb).take (i+1)=(longs m tb).take i++[rowAt tb i++unitv m i]:=by
 rw[←List.take_append_getElem (show i < (longs m tb).length by rw[longs_len]; exact hi)];simp[longs]
def tabF(x:GComplex)(n:Nat)(fr:List Int):List (List Int):=fr.map fun y=> rowAt (x.Maps.getD n []) y.toNat
theorem tabF_at{x:GComplex}{n:Nat}{fr:List Int}{i:Nat}(hi:i < fr.length):rowAt (tabF x n fr) i=rowAt (x.Maps.getD n []) (fr.getD i 0).toNat:=by
 show(tabF x n fr).getD i []=_;unfold tabF;rw[List.getD_eq_getElem?_getD,List.getElem?_map,List.getElem?_eq_getElem hi,show fr.getD i 0=fr[i] by rw[List.getD_eq_getElem?_getD,List.getElem?_eq_getElem hi]; rfl]; rfl
theorem tabF_rows{x:GComplex}(h:ValidC x){n:Nat}(hn:n+1 < x.Dims.length){fr:List Int}(P:Plcs fr (dc x (n+1))):Rows x.Prime (dc x n) (tabF x n fr):=fun r hr=> by
 obtain⟨y,hy,rfl⟩:=List.mem_map.1 hr;have:=P.rng y hy;exact row_ok (maps_tab h hn) (by omega)
theorem F334_1_loop{x:GComplex}(hx:SmallC x)(h:ValidC x){n:Nat}(hn:n+1 < x.Dims.length){fr:List Int}(P:Plcs fr (dc x (n+1)))(hfl:fr.length≤100)(b:List Int)(x4:Int)(l6:List Int):forR 0 (fr.length:Int) (F334_1_B x n b fr x4 l6) (F334_1_D x n b fr x4 l6) []=some (longs fr.length (tabF x n fr)):=by
 have hml:=h.ml;have T:=maps_tab h hn;have hd:=dc_le h n;obtain⟨t,g1,g2⟩:=forR_inv (B:=F334_1_B x n b fr x4 l6) (D:=F334_1_D x n b fr x4 l6) fr.length rfl (by omega) (fun i s=> s=(longs fr.length (tabF x n fr)).take i) (fun t=> t=longs fr.length (tabF x n fr)) (s:=[]) (by simp) (by
  rintro i s hi rfl;left;have hr:=P.at_ hi;obtain⟨q,hq⟩:=Int.eq_ofNat_of_zero_le hr.1;have hqd:q < dc x (n+1):=by omega
  have hrow:=row_ok T hqd;have hrl:=hrow.len;unfold F334_1_B;rw[getI_getD (show n < x.Maps.length by omega) [],ob,getI_getD hi 0,ob,hq,getI_getD (show q < (x.Maps.getD n []).length by rw[T.len]; exact hqd) [],ob]
  change∃s',((F94 (rowAt (x.Maps.getD n []) q)).bind _=some (Sum.inl s'))∧_
  rw[F94_eq (by omega),ob,F272_eq hi (by omega),ob,app_ok (by rw[unitv_len,hrl]; omega) (by rw[unitv_len,hrl]; omega),ob,app_ok (by simp; omega) (by simp; omega),ob];refine⟨_,rfl,?_⟩;rw[longs_take hi,tabF_at hi,hq,Int.toNat_natCast]) (by
  rintro s rfl;exact⟨_,rfl,by rw[List.take_of_length_le (by rw[longs_len]; omega)]⟩)
 rw[g1,g2]
theorem F190_1_loop{p:Int}{w:Nat}{tb:List (List Int)}(ht:Rows p w tb)(hl:tb.length≤100)(hw:w≤1000)(a1:Int):forR 0 (tb.length:Int) (F190_1_B p a1 tb) (F190_1_D p a1 tb) []=some (longs tb.length tb):=by
 obtain⟨t,g1,g2⟩:=forR_inv (B:=F190_1_B p a1 tb) (D:=F190_1_D p a1 tb) tb.length rfl (by omega) (fun i s=> s=(longs tb.length tb).take i) (fun t=> t=longs tb.length tb) (s:=[]) (by simp) (by
  rintro i s hi rfl;left;have hrl:=(ht _ (getD_mem hi [])).len;unfold F190_1_B;rw[getI_getD hi [],ob,F96_eq (by omega),ob,F132_eq hi (by omega),ob,app_ok (by rw[unitv_len,hrl]; omega) (by rw[unitv_len,hrl]; omega),ob,app_ok (by simp; omega) (by simp; omega),ob];exact⟨_,rfl,by rw[longs_take hi]; rfl⟩) (by
  rintro s rfl;exact⟨_,rfl,by rw[List.take_of_length_le (by rw[longs_len]; omega)]⟩)
 rw[g1,g2]
theorem lin_unitK{p:Int}(hp:IsP p){c w:Nat}{m:List (List Int)}(T:TabN p c w m)(hc:c≤1000)(hw:w≤1000){i:Nat}(hi:i < c):lin p w (unitv c i) m=rowAt m i:=by
 have hp1:1 < p:=by have:=hp.range; omega
 have hu:=unitv_ok hp1 hi;have H:=lin_okof hp T.len T.rows hc hw hu;refine(lin_vec H).ext (row_ok T hi) fun j hj=>(lin_at H hj).trans ?_;rw[hu.len,show dot (nth (unitv c i)) m c j=nth (rowAt m i) j by
  rw[←dot_unit (m:=m) (j:=j) hi];exact sumI_congr fun k _=> by simp only; rw[nth_unit hi]]
 exact .refl _ _
theorem F91_unit{x:GComplex}(hx:SmallC x)(h:ValidC x){n:Nat}(hn:n+1 < x.Dims.length){q:Nat}(hq:q < dc x (n+1)):F91 x ((n+1:Nat):Int) (unitv (dc x (n+1)) q)=some (rowAt (x.Maps.getD n []) q):=by
 have hp1:1 < x.Prime:=by have:=h.p.range; omega
 have hxd:=hx.d;have hml:=h.ml;have T:=maps_tab h hn;have hd:=dc_le h n;have hd1:=dc_le h (n+1);obtain⟨-,a2, -⟩:=linT h.p T (by omega) (by omega) (unitv_ok hp1 hq);unfold F91;rw[if_neg (by omega),F86_eq hx.d,ob,if_neg (by omega),chk_ok (by omega) (by omega),ob,show((n+1:Nat):Int) - 1=(n:Int) by omega,getI_getD (show n < x.Dims.length by omega) 0,ob,getI_getD (show n < x.Maps.length by omega) [],ob,dc_at h (show n < x.Dims.length by omega),a2,ob,lin_unitK h.p T (by omega) (by omega) hq]
theorem F171_2_loop{x:GComplex}(hx:SmallC x)(h:ValidC x){n:Nat}(hn:n+1 < x.Dims.length){fr:List Int}(P:Plcs fr (dc x (n+1)))(hfl:fr.length≤100)(o2 o3 o4:T3s)(x9:List (List Int)):forR 0 (fr.length:Int) (F171_2_B x o2 o3 o4 n x9 fr) (F171_2_D x o2 o3 o4 n x9 fr) []=some (tabF x n fr):=by
 have hp1:1 < x.Prime:=by have:=h.p.range; omega
 have hd:=dc_le h (n+1);have hdl:=h.dl;have htl:(tabF x n fr).length=fr.length:=by simp[tabF]
 obtain⟨t,g1,g2⟩:=forR_inv (B:=F171_2_B x o2 o3 o4 n x9 fr) (D:=F171_2_D x o2 o3 o4 n x9 fr) fr.length rfl (by omega) (fun i s=> s=(tabF x n fr).take i) (fun t=> t=tabF x n fr) (s:=[]) (by simp) (by
  rintro i s hi rfl;left;have hr:=P.at_ hi;obtain⟨q,hq⟩:=Int.eq_ofNat_of_zero_le hr.1;have hqd:q < dc x (n+1):=by omega
  have e1:=F91_unit hx h hn hqd;unfold F171_2_B;rw[getI_getD hi 0,ob,chk_ok (by omega) (by omega),ob,show(n:Int)+1=((n+1:Nat):Int) by omega,F102_dc hx h (by omega),ob,hq,F132_eq hqd (by omega),ob,e1,ob,app_ok (by simp; omega) (by simp; omega),ob];refine⟨_,rfl,?_⟩;have hi':i < (tabF x n fr).length:=by omega
  rw[←List.take_append_getElem hi']
  congr 2
  have:=tabF_at (x:=x) (n:=n) hi;rw[hq,Int.toNat_natCast]at this;rw[←this];show(tabF x n fr).getD i []=_;rw[List.getD_eq_getElem?_getD,List.getElem?_eq_getElem hi']; rfl) (by
  rintro s rfl;exact⟨_,rfl,by rw[List.take_of_length_le (by omega)]⟩)
 rw[g1,g2]
theorem red_nil(p:Int)(w:Nat):Red p w []:=⟨fun r hr=>(nomatch hr),fun r hr=>(nomatch hr),.nil⟩
theorem source_same{x:GComplex}(hx:SmallC x)(h:ValidC x){n:Nat}(hn:n+1 < x.Dims.length):∃ (fr:List Int) (M Fm:List (List Int)),F63 x ((n:Int)+1)=some fr∧Plcs fr (dc x (n+1))∧fr.length≤100∧F190 x.Prime (dc x n:Int) (tabF x n fr)=some ⟨M,Fm⟩∧
  ∀b,VecOK x.Prime (dc x n) b→∃out,F334 x (n:Int) b=some out∧out.length≤100∧∃c,F188 x.Prime b M []=some c∧∀ (o2 o3 o4:T3s) (x9 x33 o8:List (List Int)) (v78:Int) (x44:List Int) (l47:List (List Int)),forR 0 (c.length:Int) (F171_4_B x o2 o3 o4 n x9 fr ⟨M,Fm⟩ x33 o8 v78 x44 l47 c) (F171_4_D x o2 o3 o4 n x9 fr ⟨M,Fm⟩ x33 o8 v78 x44 l47 c) (zv (dc x (n+1)))=some out:=by
 have hp:=h.p.range;have hp0:0 < x.Prime:=by omega
 have hd:=dc_le h n;have hd1:=dc_le h (n+1);have hdl:=h.dl;obtain⟨K,f1,f2⟩:=free_of hx h hn;have f1':F61 x ((n+1:Nat):Int)=some (freeOf K (dc x (n+1))):=f1;have f2':F63 x ((n+1:Nat):Int)=some (freeOf K (dc x (n+1))):=f2;have hfl:=freeOf_len K (dc x (n+1));have P:Plcs (freeOf K (dc x (n+1))) (dc x (n+1)):=⟨fun y hy=> freeOf_rng hy,freeOf_nodup⟩;generalize freeOf K (dc x (n+1))=fr at f1' f2' hfl P;have hR:=tabF_rows h hn P;have htl:(tabF x n fr).length=fr.length:=by simp[tabF]
 have hL:Rows x.Prime (dc x n+fr.length) (longs fr.length (tabF x n fr)):=fun r hr=> by
  obtain⟨i,hi,rfl⟩:=List.mem_map.1 hr;have:=(long_ok (show 1 < x.Prime by omega) hR (i:=i) (by have:=List.mem_range.1 hi; omega)).1
  rwa[htl]at this
 obtain⟨E,e1,e2,e3⟩:=reduce_same h.p hL (by omega) (by rw[longs_len]; omega);have hE:=e3.red;have hEl:=red_len hE;have hM:=heads_red hE;refine⟨fr,(heads (dc x n) E).map (List.take (dc x n)),(heads (dc x n) E).map (List.drop (dc x n)),by rw[show(n:Int)+1=((n+1:Nat):Int) by omega]; exact f2',P,by omega,?_,fun b hb=>?_⟩
 ·unfold F190
  have g1:=F190_1_loop (a1:=(dc x n:Int)) hR (by omega) (by omega);rw[g1,ob,htl,e2,ob,F190_2_loop hE (by omega) (by omega),ob]
 ·have hbl:=hb.len
  have hv:VecOK x.Prime (dc x n+fr.length) (b++zv fr.length):=⟨by simp[zv,hbl],fun j hj=> by
   rw[nth_app];split
   ·exact hb.rng j (by omega)
   ·rw[nth_zv]; omega⟩
  have hro:=rest_ok hp0 hE.ok hv;obtain⟨s,s1,s2⟩:=F334_2_loop hp rfl (b:=b) P hbl hro (by omega) (show dc x (n+1)≤1000 by omega);have hF:Rows x.Prime fr.length ((heads (dc x n) E).map (List.drop (dc x n))):=fun r hr=> by
   obtain⟨t,ht,rfl⟩:=List.mem_map.1 hr;have ho:=hE.ok t (List.mem_filter.1 ht).1;exact⟨by rw[List.length_drop,ho.len]; omega,fun j hj=> by rw[nth_drop]; exact ho.rng _ (by omega)⟩
  have hc:VecOK x.Prime ((heads (dc x n) E).map (List.drop (dc x n))).length (leadsOf ((heads (dc x n) E).map (List.take (dc x n))) b):=⟨by simp[leadsOf],fun j hj=> by
   unfold leadsOf;rw[List.length_map]at hj;rw[nth_lt (by simp; omega),List.getElem_map];exact hb.rng _ (hM.one _ (List.getElem_mem (by simpa using hj))).1⟩
  have hHl:(heads (dc x n) E).length≤E.length:=List.length_filter_le _ _;refine⟨s,?_,by rw[s2.len]; omega,leadsOf ((heads (dc x n) E).map (List.take (dc x n))) b,?_,fun o2 o3 o4 x9 x33 o8 v78 x44 l47=>?_⟩
  ·unfold F334
   rw[chk_ok (by omega) (by omega),ob,show(n:Int)+1=((n+1:Nat):Int) by omega,f1',ob,F99_dc hx h (by omega),ob,mkL_ok (dc x (n+1)) rfl (by omega) (by omega),ob,F334_1_loop hx h hn P (by omega),ob,e1,ob,F94_eq (by omega),ob,appZ_ok (by omega) (by omega),ob,F134_eq hp hE hv (by omega) (by omega),ob]
   change ((forR 0 (fr.length:Int) _ _ (zv (dc x (n+1)))).bind _)=_
   rw[s1,ob]
  ·have:=F188_eq h.p hM (red_nil _ _) hb (by omega)
   rw[this]; rfl
  ·obtain⟨t,t1,t2⟩:=F171_4_loop hp rfl P hF hc (show dc x (n+1)≤1000 by omega) (by omega) (by simp; omega) (M:=(heads (dc x n) E).map (List.take (dc x n))) o2 o3 o4 (n:Int) x9 x33 o8 v78 x44 l47
   have:t=s:=t2.eq (s2.congr fun i hi=> by rw[coef_eq hp0 hE hb hi,List.length_map]);rw[←this];exact t1
theorem F332_3_loop{x:GComplex}{n:Int}{w:Nat}{p:Int}{E:List (List Int)}(hE:Red p w E)(hl:E.length≤100)(hw:w≤1000){u b z:List Int}(hu:u.length=w)(o2 o3 o4:T3s)(o6 o7:List (List Int))(v8:Int):forR 0 (E.length:Int) (F332_3_B x o2 o3 o4 n E o6 o7 v8 [b,u,z]) (F332_3_D x o2 o3 o4 n E o6 o7 v8 [b,u,z]) []=some (leadsOf E u):=by
 obtain⟨t,g1,g2⟩:=forR_inv (B:=F332_3_B x o2 o3 o4 n E o6 o7 v8 [b,u,z]) (D:=F332_3_D x o2 o3 o4 n E o6 o7 v8 [b,u,z]) E.length rfl (by omega) (fun i s=> s=leadsOf (E.take i) u) (fun t=> t=leadsOf E u) (s:=[]) (by simp[leadsOf]) (by
  rintro i s hi rfl;left;have ho:=(hE.ok _ (List.getElem_mem hi)).len;have h1:=(hE.one _ (List.getElem_mem hi)).1;unfold F332_3_B;rw[show getI [b,u,z] 1=some u from rfl,ob,getI_nat hi,ob,F81_ld (by omega),if_pos (by omega),ob,nth_get (by omega),ob,app_ok (by simp[leadsOf]; omega) (by simp[leadsOf]; omega),ob];exact⟨_,rfl,by rw[←List.take_append_getElem hi]; unfold leadsOf; rw[List.map_append]; rfl⟩) (by
  rintro s rfl;exact⟨_,rfl,by rw[List.take_length]⟩)
 rw[g1,g2]
theorem F188_leads{p:Int}{w:Nat}(hp:IsP p){E:List (List Int)}(hE:Red p w E){u:List Int}(hu:VecOK p w u)(hw:w≤1000):F188 p u E []=some (leadsOf E u):=F188_eq hp hE (red_nil _ _) hu hw
theorem step_low{x:GComplex}(hx:SmallC x)(h:ValidC x){n:Nat}(hn:n+1 < x.Dims.length){E:List (List Int)}(hE:Red x.Prime (dc x n) E){fr:List Int}{M Fm:List (List Int)}(P:Plcs fr (dc x (n+1)))
  (hsrc:∀b,VecOK x.Prime (dc x n) b→∃out,F334 x (n:Int) b=some out∧out.length≤100∧∃c,F188 x.Prime b M []=some c∧∀ (o2 o3 o4:T3s) (x9 x33 o8:List (List Int)) (v78:Int) (x44:List Int) (l47:List (List Int)),forR 0 (c.length:Int) (F171_4_B x o2 o3 o4 n x9 fr ⟨M,Fm⟩ x33 o8 v78 x44 l47 c) (F171_4_D x o2 o3 o4 n x9 fr ⟨M,Fm⟩ x33 o8 v78 x44 l47 c) (zv (dc x (n+1)))=some out)
  (i:Nat):∃q:List Int×List Int,i < dc x n→q.1.length≤100∧q.2.length≤100∧(∀ (o2 o3 o4:T3s) (o6 o7:List (List Int)),o6.length≤100→o7.length≤100→F332_2_S x o2 o3 o4 n E (o6,o7,(i:Int))=some (.inl (o6++[q.1],o7++[q.2],(i:Int)+1)))∧
   ∀ (o2 o3 o4:T3s) (o7 o8:List (List Int)),o7.length≤100→o8.length≤100→F171_3_B x o2 o3 o4 n E fr ⟨M,Fm⟩ (units (dc x n)) i (o7,o8)=some (.inl (o7++[q.1],o8++[q.2])):=by
 by_cases hi:i < dc x n
 case neg=> exact⟨([],[]),fun c=> absurd c hi⟩
 have hp1:1 < x.Prime:=by have:=h.p.range; omega
 have hd:=dc_le h n;have hd1:=dc_le h (n+1);have hdl:=h.dl;have hEl:=red_len hE;have hul:(units (dc x n)).length=dc x n:=by simp[units]
 obtain⟨b,u,w,s1,s2,s3,s4⟩:=split_same hx h (show n < x.Dims.length by omega) (unitv_ok hp1 hi);obtain⟨out,t1,t2,c,t3,t4⟩:=hsrc b s3;refine⟨(leadsOf E u,out),fun _=>⟨by simp[leadsOf]; omega,t2,fun o2 o3 o4 o6 o7 h6 h7=>?_,fun o2 o3 o4 o7 o8 h7 h8=>?_⟩⟩
 ·unfold F332_2_S
  simp only;rw[getI_getD (show n < x.Dims.length by omega) 0,ob,dc_at h (show n < x.Dims.length by omega),if_pos (by omega),F272_eq hi (by omega),ob,s1,ob,F332_3_loop hE (by omega) (by omega) s4.len,ob,app_ok (by simp; omega) (by simp; omega),ob,chk_ok (by omega) (by omega),ob,if_pos (by omega),show getI [b,u,w] 0=some b from rfl,ob,t1,ob,app_ok (by simp; omega) (by simp; omega),ob,chk_ok (by omega) (by omega),ob]
 ·unfold F171_3_B
  simp only;rw[getI_nat (show i < (units (dc x n)).length by omega),ob,units_at (by omega),s2,ob];simp only;rw[F188_leads h.p hE s4 (by omega),ob,app_ok (by simp; omega) (by simp; omega),ob,chk_ok (by omega) (by omega),ob,show(n:Int)+1=((n+1:Nat):Int) by omega,F102_dc hx h (by omega),ob,mkL_ok (dc x (n+1)) rfl (by omega) (by omega),ob,t3,ob];have:=t4 o2 o3 o4 E (units (dc x n)) o8 (i:Int) (leadsOf E u) (o7++[leadsOf E u])
  change ((forR 0 (c.length:Int) _ _ (zv (dc x (n+1)))).bind _)=_
  rw[this,ob,app_ok (by simp; omega) (by simp; omega),ob]
theorem step_top{x:GComplex}(hx:SmallC x)(h:ValidC x){n:Nat}(hn:n+1=x.Dims.length){E:List (List Int)}(hE:Red x.Prime (dc x n) E)(i:Nat):∃q:List Int×List Int,i < dc x n→q.1.length≤100∧q.2.length≤100∧(∀ (o2 o3 o4:T3s) (o6 o7:List (List Int)),o6.length≤100→o7.length≤100→F332_2_S x o2 o3 o4 n E (o6,o7,(i:Int))=some (.inl (o6++[q.1],o7++[q.2],(i:Int)+1)))∧
   ∀ (o2 o3 o4:T3s) (o7 o8:List (List Int)),o7.length≤100→o8.length≤100→F171_3_B x o2 o3 o4 n E [] ⟨[],[]⟩ (units (dc x n)) i (o7,o8)=some (.inl (o7++[q.1],o8++[q.2])):=by
 by_cases hi:i < dc x n
 case neg=> exact⟨([],[]),fun c=> absurd c hi⟩
 have hp1:1 < x.Prime:=by have:=h.p.range; omega
 have hd:=dc_le h n;have hdl:=h.dl;have hEl:=red_len hE;have hul:(units (dc x n)).length=dc x n:=by simp[units]
 have hd1:dc x (n+1)=0:=by unfold dc; rw[List.getD_eq_getElem?_getD,List.getElem?_eq_none (by omega)]; rfl
 obtain⟨b,u,w,s1,s2,s3,s4⟩:=split_same hx h (show n < x.Dims.length by omega) (unitv_ok hp1 hi);refine⟨(leadsOf E u,[]),fun _=>⟨by simp[leadsOf]; omega,by simp,fun o2 o3 o4 o6 o7 h6 h7=>?_,fun o2 o3 o4 o7 o8 h7 h8=>?_⟩⟩
 ·unfold F332_2_S
  simp only;rw[getI_getD (show n < x.Dims.length by omega) 0,ob,dc_at h (show n < x.Dims.length by omega),if_pos (by omega),F272_eq hi (by omega),ob,s1,ob,F332_3_loop hE (by omega) (by omega) s4.len,ob,app_ok (by simp; omega) (by simp; omega),ob,chk_ok (by omega) (by omega),ob,if_neg (by omega),app_ok (by simp; omega) (by simp; omega),ob,chk_ok (by omega) (by omega),ob]
 ·unfold F171_3_B
  simp only;rw[getI_nat (show i < (units (dc x n)).length by omega),ob,units_at (by omega),s2,ob];simp only;rw[F188_leads h.p hE s4 (by omega),ob,app_ok (by simp; omega) (by simp; omega),ob,chk_ok (by omega) (by omega),ob,show(n:Int)+1=((n+1:Nat):Int) by omega,F102_dc hx h (by omega),ob,hd1,mkL_ok 0 rfl (by omega) (by omega),ob,F188_leads h.p (red_nil _ _) s3 (by omega),ob];have e:∀ (B:Int→List Int→Option (List Int⊕List Int)) (D:Int→List Int→Option (List Int)),(∀i s,D i s=some s)→forR 0 0 B D ([]:List Int)=some []:=fun B D hD=> by
   obtain⟨t,g1,g2⟩:=forR_inv (B:=B) (D:=D) (hi:=0) 0 rfl (by decide) (fun i s=> s=[]) (fun t=> t=[]) (s:=[]) rfl (fun i s hi=> absurd hi (Nat.not_lt_zero _)) (fun s hs=>⟨s,hD _ _,hs⟩);rw[g1,g2]
  have e1:=e (F171_4_B x o2 o3 o4 n E [] ⟨[],[]⟩ (units (dc x n)) o8 i (leadsOf E u) (o7++[leadsOf E u]) (leadsOf [] b)) (F171_4_D x o2 o3 o4 n E [] ⟨[],[]⟩ (units (dc x n)) o8 i (leadsOf E u) (o7++[leadsOf E u]) (leadsOf [] b)) fun i s=> rfl
  change ((forR 0 0 _ _ ([]:List Int)).bind _)=_
  rw[e1,ob,app_ok (by simp; omega) (by simp; omega),ob]
theorem rows_same{x:GComplex}(h:ValidC x){n:Nat}(hn:n < x.Dims.length){E:List (List Int)}{fr:List Int}{x31:T2 (List (List Int)) (List (List Int))}
  (hst:∀i,∃q:List Int×List Int,i < dc x n→q.1.length≤100∧q.2.length≤100∧(∀ (o2 o3 o4:T3s) (o6 o7:List (List Int)),o6.length≤100→o7.length≤100→F332_2_S x o2 o3 o4 n E (o6,o7,(i:Int))=some (.inl (o6++[q.1],o7++[q.2],(i:Int)+1)))∧
   ∀ (o2 o3 o4:T3s) (o7 o8:List (List Int)),o7.length≤100→o8.length≤100→F171_3_B x o2 o3 o4 n E fr x31 (units (dc x n)) i (o7,o8)=some (.inl (o7++[q.1],o8++[q.2]))):
  ∃D K:List (List Int),(D.length≤100∧∀r∈D,r.length≤100)∧(K.length≤100∧∀r∈K,r.length≤100)∧(∀o2 o3 o4:T3s,loopW (F332_2_S x o2 o3 o4 n E) ([],[],0)=some (D,K))∧∀o2 o3 o4:T3s,forR 0 ((units (dc x n)).length:Int) (F171_3_B x o2 o3 o4 n E fr x31 (units (dc x n))) (F171_3_D x o2 o3 o4 n E fr x31 (units (dc x n))) ([],[])=some (D,K):=by
 have hd:=dc_le h n;have hul:(units (dc x n)).length=dc x n:=by simp[units]
 obtain⟨f,hf⟩:=Classical.axiomOfChoice hst;have hl1:∀m,((List.range m).map fun i=>(f i).1).length=m:=fun m=> by simp
 have hl2:∀m,((List.range m).map fun i=>(f i).2).length=m:=fun m=> by simp
 refine⟨(List.range (dc x n)).map fun i=>(f i).1,(List.range (dc x n)).map fun i=>(f i).2,⟨by rw[hl1]; omega,fun r hr=>?_⟩,⟨by rw[hl2]; omega,fun r hr=>?_⟩,fun o2 o3 o4=>?_,fun o2 o3 o4=>?_⟩
 ·obtain⟨i,hi,rfl⟩:=List.mem_map.1 hr
  exact(hf i (List.mem_range.1 hi)).1
 ·obtain⟨i,hi,rfl⟩:=List.mem_map.1 hr
  exact(hf i (List.mem_range.1 hi)).2.1
 ·obtain⟨t,g1,g2⟩:=loopW_inv (S:=F332_2_S x o2 o3 o4 n E) (fun s=>((dc x n:Int) - s.2.2).toNat) (fun s=>∃i:Nat,i≤dc x n∧s=((List.range i).map (fun i=>(f i).1),(List.range i).map (fun i=>(f i).2),(i:Int))) (fun t=> t=((List.range (dc x n)).map (fun i=>(f i).1),(List.range (dc x n)).map (fun i=>(f i).2))) (s:=([],[],0)) ⟨0,Nat.zero_le _,rfl⟩ (by
   rintro _ ⟨i,hi,rfl⟩;by_cases c:i < dc x n
   ·left
    refine⟨_,(hf i c).2.2.1 o2 o3 o4 _ _ (by rw[hl1]; omega) (by rw[hl2]; omega),⟨i+1,c,?_⟩,by simp only; omega⟩;rw[List.range_succ,List.map_append,List.map_append]; rfl
   ·right
    have:i=dc x n:=by omega
    subst this;unfold F332_2_S;simp only;rw[getI_getD hn 0,ob,dc_at h hn,if_neg (by omega)];exact⟨_,rfl,rfl⟩)
  rw[g1,g2]
 ·obtain⟨t,g1,g2⟩:=forR_inv (B:=F171_3_B x o2 o3 o4 n E fr x31 (units (dc x n))) (D:=F171_3_D x o2 o3 o4 n E fr x31 (units (dc x n))) (units (dc x n)).length rfl (by omega) (fun i s=> s=((List.range i).map (fun i=>(f i).1),(List.range i).map (fun i=>(f i).2))) (fun t=> t=((List.range (dc x n)).map (fun i=>(f i).1),(List.range (dc x n)).map (fun i=>(f i).2))) (s:=([],[])) rfl (by
   rintro i s hi rfl;left;refine⟨_,(hf i (by omega)).2.2.2 o2 o3 o4 _ _ (by rw[hl1]; omega) (by rw[hl2]; omega),?_⟩;rw[List.range_succ,List.map_append,List.map_append]; rfl) (by
   rintro s rfl;rw[hul];exact⟨_,rfl,rfl⟩)
  rw[g1,g2]
theorem top_free{x:GComplex}(hx:SmallC x)(h:ValidC x):F63 x (x.Dims.length:Int)=some []:=by
 have hdl:=h.dl;unfold F63 F100;rw[if_neg (by omega),F86_eq hx.d,ob,if_pos (by omega),F102_dc hx h (Nat.le_refl _),ob,F124_eq (by have:=dc_le h x.Dims.length; omega),ob,ob,dc_out (Nat.le_refl _),F101_eq (w:=0) (K:=units 0) (units_red (p:=x.Prime) (by have:=h.p.range; omega) 0) (by omega),ob,ob];obtain⟨t,g1,g2⟩:=forR_inv (B:=F63_1_B ((units 0).map fun r=>(ld r:Int)) ((0:Nat):Int)) (D:=F63_1_D ((units 0).map fun r=>(ld r:Int)) ((0:Nat):Int)) (hi:=((0:Nat):Int)) 0 rfl (by decide) (fun i s=> s=[]) (fun t=> t=[]) (s:=[]) rfl (fun i s hi=> absurd hi (Nat.not_lt_zero _)) (fun s hs=>⟨s,rfl,hs⟩);rw[g1,g2,ob]
theorem F190_nil{p:Int}(hp:IsP p){w:Nat}(hw:w≤100):F190 p (w:Int) []=some ⟨[],[]⟩:=by
 obtain⟨N,n1,n2,n3⟩:=reduce_same (p:=p) (w:=w+0) hp (rows:=[]) (fun r hr=>(nomatch hr)) (by omega) (by simp);have hN:N=[]:=n3.same (by have:=hp.range; omega) (EchOf.nil p (w+0));subst hN;unfold F190;have g1:=F190_1_loop (p:=p) (w:=w) (tb:=[]) (fun r hr=>(nomatch hr)) (by simp) (by omega) (w:Int);have e:longs ([]:List (List Int)).length []=[]:=by simp[longs]
 rw[e]at g1;rw[g1,ob,n2,ob,F190_2_loop (p:=p) (n:=0) (red_nil p (w+0)) (by simp) (by omega),ob];rfl
theorem deg_same{x:GComplex}(hx:SmallC x)(h:ValidC x)(n:Nat):∃q:List (List Int)×List (List Int)×List (List Int),n < x.Dims.length→SmallT [q.1,q.2.1,q.2.2]∧(∀o2 o3 o4:T3s,o2.length≤100→o3.length≤100→o4.length≤100→F332_1_B x n (o2,o3,o4)=some (.inl (o2++[q.1],o3++[q.2.1],o4++[q.2.2])))∧∀o2 o3 o4:T3s,o2.length≤100→o3.length≤100→o4.length≤100→F171_1_B x n (o2,o3,o4)=some (.inl (o2++[q.1],o3++[q.2.1],o4++[q.2.2])):=by
 by_cases hn:n < x.Dims.length
 case neg=> exact⟨([],[],[]),fun c=> absurd c hn⟩
 have hd:=dc_le h n;have hdl:=h.dl;obtain⟨E,e1,e2,hE⟩:=holes_same hx h hn;have hEl:=red_len hE;have hul:(units (dc x n)).length=dc x n:=by simp[units]
 have hEr:∀r∈E,r.length≤100:=fun r hr=> by rw[(hE.ok r hr).len]; omega
 obtain⟨fr,x31,tb,D,K,f1,f2,f3,⟨D1,D2⟩,⟨K1,K2⟩,l1,l2⟩:∃ (fr:List Int) (x31:T2 (List (List Int)) (List (List Int))) (tb:List (List Int)) (D K:List (List Int)),F63 x ((n:Int)+1)=some fr∧(∀o2 o3 o4:T3s,forR 0 (fr.length:Int) (F171_2_B x o2 o3 o4 n E fr) (F171_2_D x o2 o3 o4 n E fr) []=some tb)∧F190 x.Prime (dc x n:Int) tb=some x31∧(D.length≤100∧∀r∈D,r.length≤100)∧(K.length≤100∧∀r∈K,r.length≤100)∧(∀o2 o3 o4:T3s,loopW (F332_2_S x o2 o3 o4 n E) ([],[],0)=some (D,K))∧∀o2 o3 o4:T3s,forR 0 ((units (dc x n)).length:Int) (F171_3_B x o2 o3 o4 n E fr x31 (units (dc x n))) (F171_3_D x o2 o3 o4 n E fr x31 (units (dc x n))) ([],[])=some (D,K):=by
  by_cases c:n+1 < x.Dims.length
  ·obtain⟨fr,M,Fm,f1,P,f2,f3,f4⟩:=source_same hx h c
   obtain⟨D,K,d1,d2,d3,d4⟩:=rows_same h hn (E:=E) (fr:=fr) (x31:=⟨M,Fm⟩) (fun i=> step_low hx h c hE P f4 i);exact⟨fr,⟨M,Fm⟩,tabF x n fr,D,K,f1,fun o2 o3 o4=> F171_2_loop hx h c P f2 o2 o3 o4 E,f3,d1,d2,d3,d4⟩
  ·have hn1:n+1=x.Dims.length:=by omega
   obtain⟨D,K,d1,d2,d3,d4⟩:=rows_same h hn (E:=E) (fr:=[]) (x31:=⟨[],[]⟩) (fun i=> step_top hx h hn1 hE i);refine⟨[],⟨[],[]⟩,[],D,K,by rw[show(n:Int)+1=(x.Dims.length:Int) by omega]; exact top_free hx h,fun o2 o3 o4=>?_,F190_nil h.p (by omega),d1,d2,d3,d4⟩;obtain⟨t,g1,g2⟩:=forR_inv (B:=F171_2_B x o2 o3 o4 n E []) (D:=F171_2_D x o2 o3 o4 n E []) (hi:=((([]:List Int).length:Nat):Int)) 0 rfl (by decide) (fun i s=> s=[]) (fun t=> t=[]) (s:=[]) rfl (fun i s hi=> absurd hi (Nat.not_lt_zero _)) (fun s hs=>⟨s,rfl,hs⟩);rw[g1,g2]
 refine⟨(D,E,K),fun _=>⟨⟨by simp,fun m hm=>?_⟩,fun o2 o3 o4 h2 h3 h4=>?_,fun o2 o3 o4 h2 h3 h4=>?_⟩⟩
 ·simp only[List.mem_cons,List.not_mem_nil,or_false]at hm
  rcases hm with rfl|rfl|rfl
  ·exact⟨by omega,fun r hr=> by have:=D2 r hr; omega⟩
  ·exact⟨by omega,fun r hr=> by have:=hEr r hr; omega⟩
  ·exact⟨by omega,fun r hr=> by have:=K2 r hr; omega⟩
 ·unfold F332_1_B
  simp only;rw[e1,ob,l1,ob];simp only;rw[app_ok (by simp; omega) (by simp; omega),ob,app_ok (by simp; omega) (by simp; omega),ob,app_ok (by simp; omega) (by simp; omega),ob]
 ·unfold F171_1_B
  simp only;rw[e2,ob,f1,ob,f2,ob,F102_dc hx h (by omega),ob,f3,ob,F124_eq (by omega),ob,l2,ob];simp only;rw[app_ok (by simp; omega) (by simp; omega),ob,app_ok (by simp; omega) (by simp; omega),ob,app_ok (by simp; omega) (by simp; omega),ob]
theorem contraction_all{x:GComplex}(hx:SmallC x)(h:ValidC x):∃w:GContraction,F332 x=some w∧F171 x=some w∧SmallT w.Down∧SmallT w.Up∧SmallT w.Back:=by
 have hdl:=h.dl;obtain⟨f,hf⟩:=Classical.axiomOfChoice (deg_same hx h);have hl:∀ (g:Nat→List (List Int)) m,((List.range m).map g).length=m:=fun g m=> by simp
 have sm:∀g:Nat→List (List Int),(∀i,i < x.Dims.length→(g i).length≤1048576∧∀r∈g i,r.length≤1048576)→SmallT ((List.range x.Dims.length).map g):=fun g hg=>⟨by rw[hl]; omega,fun m hm=> by
  obtain⟨i,hi,rfl⟩:=List.mem_map.1 hm;exact hg i (List.mem_range.1 hi)⟩
 refine⟨⟨(List.range x.Dims.length).map fun i=>(f i).1,(List.range x.Dims.length).map fun i=>(f i).2.1,(List.range x.Dims.length).map fun i=>(f i).2.2⟩,?_,?_,sm _ fun i hi=>(hf i hi).1.r _ (by simp),sm _ fun i hi=>(hf i hi).1.r _ (by simp),sm _ fun i hi=>(hf i hi).1.r _ (by simp)⟩
 ·unfold F332
  obtain⟨t,g1,g2⟩:=forR_inv (B:=F332_1_B x) (D:=F332_1_D x) (hi:=(x.Dims.length:Int)) x.Dims.length rfl (by omega) (fun i s=> s=((List.range i).map (fun i=>(f i).1),(List.range i).map (fun i=>(f i).2.1),(List.range i).map (fun i=>(f i).2.2))) (fun t=> t=((List.range x.Dims.length).map (fun i=>(f i).1),(List.range x.Dims.length).map (fun i=>(f i).2.1),(List.range x.Dims.length).map (fun i=>(f i).2.2))) (s:=([],[],[])) rfl (by
   rintro i s hi rfl;left;refine⟨_,(hf i hi).2.1 _ _ _ (by rw[hl]; omega) (by rw[hl]; omega) (by rw[hl]; omega),?_⟩;rw[List.range_succ,List.map_append,List.map_append,List.map_append]; rfl) (by
   rintro s rfl;exact⟨_,rfl,rfl⟩)
  rw[g1,g2,ob]
 ·unfold F171
  obtain⟨t,g1,g2⟩:=forR_inv (B:=F171_1_B x) (D:=F171_1_D x) (hi:=(x.Dims.length:Int)) x.Dims.length rfl (by omega) (fun i s=> s=((List.range i).map (fun i=>(f i).1),(List.range i).map (fun i=>(f i).2.1),(List.range i).map (fun i=>(f i).2.2))) (fun t=> t=((List.range x.Dims.length).map (fun i=>(f i).1),(List.range x.Dims.length).map (fun i=>(f i).2.1),(List.range x.Dims.length).map (fun i=>(f i).2.2))) (s:=([],[],[])) rfl (by
   rintro i s hi rfl;left;refine⟨_,(hf i hi).2.2 _ _ _ (by rw[hl]; omega) (by rw[hl]; omega) (by rw[hl]; omega),?_⟩;rw[List.range_succ,List.map_append,List.map_append,List.map_append]; rfl) (by
   rintro s rfl;exact⟨_,rfl,rfl⟩)
  rw[g1,g2,ob]
theorem contraction_same{x:GComplex}(hx:SmallC x):∃w c,F326 x=some ⟨w,c⟩∧F154 x=some ⟨w,c⟩∧SmallT w.Down∧SmallT w.Up∧SmallT w.Back:=by
 obtain⟨b,d1,d2,d3⟩:=(F39_tells hx).same (F42_tells hx);unfold F326 F154;rw[d1,d2,ob,ob];cases b with
 |false=>
  rw[if_neg Bool.false_ne_true,if_neg Bool.false_ne_true];exact⟨_,_,rfl,rfl,⟨by simp,by simp⟩,⟨by simp,by simp⟩,⟨by simp,by simp⟩⟩
 |true=>
  obtain⟨w,w1,w2,w3,w4,w5⟩:=contraction_all hx (d3.1 rfl);rw[if_pos rfl,if_pos rfl,w1,w2,ob];exact⟨w,0,rfl,rfl,w3,w4,w5⟩
theorem F228_refl{w:GContraction}(h1:SmallT w.Down)(h2:SmallT w.Up)(h3:SmallT w.Back):F228 w w=some true:=by
 unfold F228;rw[F17_same h1.m h1.r,ob,if_pos rfl,F17_same h2.m h2.r,ob,if_pos rfl,F17_same h3.m h3.r,ob,if_pos rfl]
theorem FM327_mk{w:GContraction}(h1:SmallT w.Down)(h2:SmallT w.Up)(h3:SmallT w.Back):∃y m,FM327 w 1=some (y,m)∧F328 y 1=some m∧0≤m:=by
 obtain⟨d,j1,e1,k1⟩:=F21_mk h1.m h1.r (k:=1) (by decide) (by decide);have a1:=k1.2.1;have b1:=k1.2.2.1;obtain⟨u,j2,e2,k2⟩:=F21_mk h2.m h2.r (k:=j1) (by omega) (by omega);have a2:=k2.2.1;have b2:=k2.2.2.1;obtain⟨b,j3,e3,k3⟩:=F21_mk h3.m h3.r (k:=j2) (by omega) (by omega);have a3:=k3.2.1;have b3:=k3.2.2.1;refine⟨⟨d,u,b⟩,j3,?_,?_,by omega⟩
 ·unfold FM327
  rw[e1,ob];simp only;rw[e2,ob];simp only;rw[e3,ob]
 ·unfold F328
  rw[F53_held k1 (by decide) (by omega),ob,if_neg (by omega),F53_held k2 (by omega) (by omega),ob,if_neg (by omega),F53_held k3 (by omega) (by omega),ob,if_neg (by omega)]
theorem law18{x:GComplex}(hx:LongC x):L339 x:=by
 unfold L339;obtain⟨z,a1,a2⟩:=F10_eq hx (s:=1048576) (by decide) (by decide);rcases a2 with a2|⟨a2,a3,hx'⟩
 ·exact .inl ⟨z,a1,a2⟩
 obtain⟨w,c,s1,s2,w1,w2,w3⟩:=contraction_same hx';obtain⟨x',m0,e1,e2,e3, -⟩:=FM20_m hx' (k:=1) (by decide) (by decide);obtain⟨y,m,g1,g2,g3⟩:=FM327_mk w1 w2 w3;exact .inr ⟨z,x,w,c,(x',m0),(y,m),a1,by omega,F12_eq hx',s1,s2,F228_refl w1 w2 w3,F16_same hx',e1,by simp only; omega,g1,g2,by simp only; omega⟩
end Rv
