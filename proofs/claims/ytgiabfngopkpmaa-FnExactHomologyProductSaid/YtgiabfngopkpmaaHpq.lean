/- The plain law: what the typed functions answer -/
import Derived.Test.YtgiabfngopkpmaaHps2
namespace Rv
theorem ob.{u,v} {α:Type u} {β:Type v} (a:α) (f:α→Option β):(some a).bind f=f a:=rfl
set_option linter.unusedVariables false
set_option linter.unusedSimpArgs false
def Cg(p a b:Int):Prop:=∃m,a=b+p*m
theorem Cg.refl(p a:Int):Cg p a a:=⟨0,by simp⟩
theorem Cg.symm{p a b:Int}(h:Cg p a b):Cg p b a:=by
 obtain⟨m,rfl⟩:=h; exact⟨-m,by grind⟩
theorem Cg.trans{p a b c:Int}(h:Cg p a b)(k:Cg p b c):Cg p a c:=by
 obtain⟨m,rfl⟩:=h; obtain⟨n,rfl⟩:=k; exact⟨n+m,by grind⟩
theorem Cg.add{p a b c d:Int}(h:Cg p a b)(k:Cg p c d):Cg p (a+c) (b+d):=by
 obtain⟨m,rfl⟩:=h; obtain⟨n,rfl⟩:=k; exact⟨m+n,by grind⟩
theorem Cg.sub{p a b c d:Int}(h:Cg p a b)(k:Cg p c d):Cg p (a - c) (b - d):=by
 obtain⟨m,rfl⟩:=h; obtain⟨n,rfl⟩:=k; exact⟨m - n,by grind⟩
theorem Cg.mul{p a b c d:Int}(h:Cg p a b)(k:Cg p c d):Cg p (a*c) (b*d):=by
 obtain⟨m,rfl⟩:=h; obtain⟨n,rfl⟩:=k; exact⟨b*n+m*d+p*(m*n),by grind⟩
theorem Cg.mod(p a:Int):Cg p (a% p) a:=⟨-(a/p),by have:=Int.emod_add_mul_ediv a p; grind⟩
theorem Cg.eq{p a b:Int}(h:Cg p a b)(a0:0≤a)(a1:a < p)(b0:0≤b)(b1:b < p):a=b:=by
 obtain⟨m,hm⟩:=h;have:a% p=b% p:=by rw[hm,Int.add_mul_emod_self_left]
 rwa[Int.emod_eq_of_lt a0 a1,Int.emod_eq_of_lt b0 b1]at this
theorem Cg.emod{p a b:Int}(h:Cg p a b):a% p=b% p:=by
 obtain⟨m,rfl⟩:=h; rw[Int.add_mul_emod_self_left]
def nth(v:List Int)(j:Nat):Int:=v.getD j 0
theorem nth_lt{v:List Int}{j:Nat}(h:j < v.length):nth v j=v[j]:=by simp[nth,h]
theorem nth_out{v:List Int}{j:Nat}(h:v.length≤j):nth v j=0:=by simp[nth,h]
theorem nth_ext{u v:List Int}(hl:u.length=v.length)(h:∀j,j < u.length→nth u j=nth v j):u=v:=by
 apply List.ext_getElem hl;intro j h1 h2;have:=h j h1
 rwa[nth_lt h1,nth_lt h2]at this
structure VecOK (p:Int) (w:Nat) (v:List Int):Prop where
 len:v.length=w
 rng:∀j,j < w→0≤nth v j∧nth v j < p
theorem VecOK.ext{p:Int}{w:Nat}{u v:List Int}(hu:VecOK p w u)(hv:VecOK p w v)(h:∀j,j < w→Cg p (nth u j) (nth v j)):u=v:=
 nth_ext (hu.len.trans hv.len.symm) fun j hj=> by
  rw[hu.len]at hj;exact(h j hj).eq (hu.rng j hj).1 (hu.rng j hj).2 (hv.rng j hj).1 (hv.rng j hj).2
def zv(w:Nat):List Int:=List.replicate w 0
theorem nth_zv(w j:Nat):nth (zv w) j=0:=by
 rcases Nat.lt_or_ge j w with h|h
 ·simp[nth,zv,h]
 ·exact nth_out (by simpa[zv]using h)
theorem zv_ok{p:Int}(hp:0 < p)(w:Nat):VecOK p w (zv w):=⟨by simp[zv],fun j _=> by rw[nth_zv]; omega⟩
def subv(p:Int)(v u:List Int)(k:Int):List Int:=List.zipWith (fun a b=>(a - k*b)% p) v u
theorem nth_sub{p:Int}{w:Nat}{v u:List Int}{k:Int}(hv:v.length=w)(hu:u.length=w){j:Nat}(hj:j < w):nth (subv p v u k) j=(nth v j - k*nth u j)% p:=by
 have h1:j < (subv p v u k).length:=by simp[subv]; omega
 rw[nth_lt h1,nth_lt (show j < v.length by omega),nth_lt (show j < u.length by omega)];simp[subv]
theorem sub_cg{p:Int}{w:Nat}{v u:List Int}{k:Int}(hv:v.length=w)(hu:u.length=w){j:Nat}(hj:j < w):Cg p (nth (subv p v u k) j) (nth v j - k*nth u j):=by
 rw[nth_sub hv hu hj]; exact .mod _ _
theorem sub_ok{p:Int}(hp:0 < p){w:Nat}{v u:List Int}{k:Int}(hv:v.length=w)(hu:u.length=w):VecOK p w (subv p v u k):=
 ⟨by simp[subv,hv,hu],fun j hj=> by rw[nth_sub hv hu hj]; exact⟨Int.emod_nonneg _ (by omega),Int.emod_lt_of_pos _ hp⟩⟩
inductive Sp (p:Int) (w:Nat) (R:List (List Int)):List Int→Prop
 |zero:Sp p w R (zv w)
 |sub {v r:List Int} (k:Int):Sp p w R v→r∈R→Sp p w R (subv p v r k)
abbrev Rows(p:Int)(w:Nat)(R:List (List Int)):Prop:=∀r∈R,VecOK p w r
section
variable {p:Int} {w:Nat} {R:List (List Int)}
theorem Sp.ok(hp:0 < p)(hR:Rows p w R){v:List Int}(h:Sp p w R v):VecOK p w v:=by
 induction h with
 |zero=> exact zv_ok hp w
 |sub k _ hr ih=> exact sub_ok hp ih.len (hR _ hr).len
theorem Sp.lin(hp:0 < p)(hR:Rows p w R){u v:List Int}(hu:Sp p w R u)(hv:Sp p w R v)(k:Int):Sp p w R (subv p u v k):=by
 induction hv generalizing u k with
 |zero=>
  have hu':=hu.ok hp hR;have:subv p u (zv w) k=u:=(sub_ok hp hu'.len (zv_ok hp w).len).ext hu' fun j hj=>(sub_cg hu'.len (zv_ok hp w).len hj).trans (by rw[nth_zv]; exact⟨0,by grind⟩);rw[this]; exact hu
 | @sub v r k' hv hr ih=>
  have hu':=hu.ok hp hR;have hv':=hv.ok hp hR;have hr':=hR _ hr;have h1:=ih hu k;have h1':=h1.ok hp hR;have:subv p u (subv p v r k') k=subv p (subv p u v k) r (-(k*k')):=(sub_ok hp hu'.len (sub_ok hp hv'.len hr'.len).len).ext (sub_ok hp h1'.len hr'.len) fun j hj=> by
   refine(sub_cg hu'.len (sub_ok hp hv'.len hr'.len).len hj).trans (Cg.trans (.sub (.refl _ _) (.mul (.refl _ _) (sub_cg hv'.len hr'.len hj))) (Cg.symm ((sub_cg h1'.len hr'.len hj).trans (Cg.trans (.sub (sub_cg hu'.len hv'.len hj) (.refl _ _)) ?_))));exact⟨0,by grind⟩
  rw[this];exact .sub _ h1 hr
theorem Sp.mem(hp:0 < p)(hR:Rows p w R){r:List Int}(hr:r∈R):Sp p w R r:=by
 have h:=Sp.sub (-1) (Sp.zero (p:=p) (w:=w) (R:=R)) hr;have hr':=hR _ hr;have:subv p (zv w) r (-1)=r:=(sub_ok hp (zv_ok hp w).len hr'.len).ext hr' fun j hj=>(sub_cg (zv_ok hp w).len hr'.len hj).trans (by rw[nth_zv]; exact⟨0,by grind⟩)
 rwa[this]at h
theorem Sp.scale(hp:0 < p)(hR:Rows p w R){v:List Int}(hv:Sp p w R v)(k:Int):Sp p w R (subv p (zv w) v k):=Sp.lin hp hR .zero hv k
theorem Sp.into{T:List (List Int)}(hp:0 < p)(hT:Rows p w T)(h:∀r∈R,Sp p w T r){v:List Int}(hv:Sp p w R v):Sp p w T v:=by
 induction hv with
 |zero=> exact .zero
 |sub k _ hr ih=> exact Sp.lin hp hT ih (h _ hr) k
theorem Sp.mono{T:List (List Int)}(h:∀r∈R,r∈T){v:List Int}(hv:Sp p w R v):Sp p w T v:=by
 induction hv with
 |zero=> exact .zero
 |sub k _ hr ih=> exact .sub k ih (h _ hr)
theorem sub_back(hp:0 < p){v u:List Int}(hv:VecOK p w v)(hu:VecOK p w u)(k:Int):subv p (subv p v u k) u (-k)=v:=
 (sub_ok hp (sub_ok hp hv.len hu.len).len hu.len).ext hv fun j hj=>(sub_cg (sub_ok hp hv.len hu.len).len hu.len hj).trans (Cg.trans (.sub (sub_cg hv.len hu.len hj) (.refl _ _)) ⟨0,by grind⟩)
theorem sub_iff(hp:0 < p){T:List (List Int)}(hT:Rows p w T){v u:List Int}(hv:VecOK p w v)(hu:Sp p w T u)(k:Int):Sp p w T (subv p v u k)↔Sp p w T v:=
 ⟨fun h=> by have:=Sp.lin hp hT h hu (-k); rwa[sub_back hp hv (hu.ok hp hT)]at this,fun h=> Sp.lin hp hT h hu k⟩
end
def ld(r:List Int):Nat:=r.findIdx (fun x=> x != 0)
theorem ld_zero{r:List Int}{j:Nat}(h:j < ld r):nth r j=0:=by
 have hj:j < r.length:=Nat.lt_of_lt_of_le h List.findIdx_le_length;have:=List.not_of_lt_findIdx h;rw[nth_lt hj];simpa using this
theorem ld_ne{r:List Int}(h:ld r < r.length):nth r (ld r)≠0:=by
 rw[nth_lt h];have h':(r.findIdx fun x=> x != 0) < r.length:=h;have:=List.findIdx_getElem (w:=h');intro e;have e':r[r.findIdx fun x=> x != 0]=0:=e;rw[e']at this;simp at this
theorem ld_of{r:List Int}{l:Nat}(h0:∀j,j < l→nth r j=0)(h1:nth r l≠0):ld r=l:=by
 have hl:l < r.length:=by
  rcases Nat.lt_or_ge l r.length with h|h
  ·exact h
  ·exact absurd (nth_out h) h1
 rcases Nat.lt_trichotomy (ld r) l with h|h|h
 ·exact absurd (h0 _ h) (ld_ne (by omega))
 ·exact h
 ·exact absurd (ld_zero h) h1
structure Red (p:Int) (w:Nat) (R:List (List Int)):Prop where
 ok:Rows p w R
 one:∀r∈R,ld r < w∧nth r (ld r)=1
 ord:R.Pairwise fun r s=> ld r < ld s∧nth r (ld s)=0
def comb(R:List (List Int))(v:List Int)(j:Nat):Int:=match R with
 | []=> 0
 |r::R=> nth v (ld r)*nth r j+comb R v j
theorem comb_zero{R:List (List Int)}{v:List Int}{j:Nat}(h:∀r∈R,nth v (ld r)=0∨nth r j=0):comb R v j=0:=by
 induction R with
 |nil=> rfl
 |cons r R ih=>
  unfold comb;rw[ih fun s hs=> h s (List.mem_cons_of_mem _ hs)];rcases h r List.mem_cons_self with h|h <;> rw[h] <;> simp
theorem comb_lin{p:Int}{w:Nat}{v u:List Int}{k:Int}(hv:v.length=w)(hu:u.length=w){j:Nat}:∀ {R:List (List Int)},(∀r∈R,ld r < w)→Cg p (comb R (subv p v u k) j) (comb R v j - k*comb R u j)
 | [],_=>⟨0,by simp[comb]⟩
 |r::R,h=> by
  unfold comb;refine Cg.trans (.add (.mul (sub_cg hv hu (h r List.mem_cons_self)) (.refl _ _)) (comb_lin hv hu fun s hs=> h s (List.mem_cons_of_mem _ hs))) ⟨0,by grind⟩
theorem comb_self{p:Int}{w:Nat}{j:Nat}:∀ {R:List (List Int)} (h:Red p w R) {s:List Int} (hs:s∈R),comb R s j=nth s j
 |r::R,h,s,hs=> by
  have hp:=List.pairwise_cons.1 h.ord;unfold comb;rcases List.mem_cons.1 hs with rfl|hs
  ·rw[(h.one _ List.mem_cons_self).2,comb_zero fun t ht=> .inl (hp.1 t ht).2]; simp
  ·rw[ld_zero (hp.1 s hs).1,comb_self ⟨fun t ht=> h.ok t (List.mem_cons_of_mem _ ht),fun t ht=> h.one t (List.mem_cons_of_mem _ ht),hp.2⟩ hs]; simp
theorem Red.coord{p:Int}{w:Nat}{R:List (List Int)}(hp:0 < p)(h:Red p w R){v:List Int}(hv:Sp p w R v)(j:Nat)(hj:j < w):Cg p (nth v j) (comb R v j):=by
 induction hv with
 |zero=> rw[nth_zv,comb_zero fun r _=> .inl (nth_zv _ _)]; exact .refl _ _
 | @sub v r k hv hr ih=>
  have hv':=hv.ok hp h.ok;have hr':=h.ok _ hr;refine(sub_cg hv'.len hr'.len hj).trans (Cg.trans (.sub ih (.refl _ _)) (Cg.symm ((comb_lin hv'.len hr'.len fun s hs=>(h.one s hs).1).trans ?_)));rw[comb_self h hr]; exact .refl _ _
theorem Red.lead{p:Int}{w:Nat}{R:List (List Int)}(hp:0 < p)(h:Red p w R){v:List Int}(hv:Sp p w R v)(hl:ld v < w):∃r∈R,ld r=ld v:=by
 refine Classical.byContradiction fun hn=>?_;have hv':=hv.ok hp h.ok;have hc:=h.coord hp hv (ld v) hl;rw[comb_zero fun r hr=>?_]at hc
 ·have:=hc.eq (hv'.rng _ hl).1 (hv'.rng _ hl).2 (Int.le_refl _) hp
  exact ld_ne (by rw[hv'.len]; exact hl) this
 ·rcases Nat.lt_trichotomy (ld r) (ld v)with q|q|q
  ·exact .inl (ld_zero q)
  ·exact absurd ⟨r,hr,q⟩ hn
  ·exact .inr (ld_zero q)
theorem sorted_eq:∀ {a b:List Nat},a.Pairwise (·< ·)→b.Pairwise (·< ·)→(∀x,x∈a↔x∈b)→a=b
 | [],[],_,_,_=> rfl
 | [],y::b,_,_,h=> by have:=(h y).2 List.mem_cons_self; simp at this
 |x::a,[],_,_,h=> by have:=(h x).1 List.mem_cons_self; simp at this
 |x::a,y::b,ha,hb,h=> by
  obtain⟨a1,a2⟩:=List.pairwise_cons.1 ha;obtain⟨b1,b2⟩:=List.pairwise_cons.1 hb;have e:x=y:=by
   rcases List.mem_cons.1 ((h x).1 List.mem_cons_self)with q|q
   ·exact q
   ·rcases List.mem_cons.1 ((h y).2 List.mem_cons_self)with q'|q'
    ·exact q'.symm
    ·have:=b1 x q; have:=a1 y q'; omega
  subst e;rw[sorted_eq a2 b2 fun z=>⟨fun hz=>?_,fun hz=>?_⟩]
  ·rcases List.mem_cons.1 ((h z).1 (List.mem_cons_of_mem _ hz))with rfl|q
   ·exact absurd (a1 _ hz) (Nat.lt_irrefl _)
   ·exact q
  ·rcases List.mem_cons.1 ((h z).2 (List.mem_cons_of_mem _ hz))with rfl|q
   ·exact absurd (b1 _ hz) (Nat.lt_irrefl _)
   ·exact q
theorem Red.leads{p:Int}{w:Nat}{R:List (List Int)}(h:Red p w R):(R.map ld).Pairwise (·< ·):=by
 rw[List.pairwise_map];exact h.ord.imp fun q=> q.1
theorem Red.unique{p:Int}{w:Nat}{R S:List (List Int)}(hp:0 < p)(hR:Red p w R)(hS:Red p w S)(h:∀v,Sp p w R v↔Sp p w S v):R=S:=by
 have hL:R.map ld=S.map ld:=sorted_eq hR.leads hS.leads fun x=> by
  constructor
  ·intro hx
   obtain⟨r,hr,rfl⟩:=List.mem_map.1 hx;obtain⟨s,hs,e⟩:=hS.lead hp ((h r).1 (.mem hp hR.ok hr)) (hR.one r hr).1;exact List.mem_map.2 ⟨s,hs,e⟩
  ·intro hx
   obtain⟨r,hr,rfl⟩:=List.mem_map.1 hx;obtain⟨s,hs,e⟩:=hR.lead hp ((h r).2 (.mem hp hS.ok hr)) (hS.one r hr).1;exact List.mem_map.2 ⟨s,hs,e⟩
 have hlen:R.length=S.length:=by have:=congrArg List.length hL; simpa using this
 apply List.ext_getElem hlen;intro i h1 h2;have hr:=List.getElem_mem h1;have hs:=List.getElem_mem h2;have r1:=hR.ok _ hr;have s1:=hS.ok _ hs;have ldq:∀k (a:k < R.length) (b:k < S.length),ld R[k]=ld S[k]:=fun k a b=> by
  have:(R.map ld)[k]'(by simpa using a)=(S.map ld)[k]'(by simpa using b):=by simp only[hL]
  simpa using this
 -- their difference
 have hd:Sp p w R (subv p R[i] S[i] 1):=Sp.lin hp hR.ok (.mem hp hR.ok hr) ((h _).2 (.mem hp hS.ok hs)) 1;have hdk:=hd.ok hp hR.ok;have val:∀ (T:List (List Int)) (hT:Red p w T) (a b:Nat) (ha:a < T.length) (hb:b < T.length),nth T[a] (ld T[b])=if a=b then 1 else 0:=fun T hT a b ha hb=> by
  rcases Nat.lt_trichotomy a b with q|q|q
  ·rw[if_neg (by omega)]; exact(List.pairwise_iff_getElem.1 hT.ord a b ha hb q).2
  ·subst q; rw[if_pos rfl]; exact(hT.one _ (List.getElem_mem ha)).2
  ·rw[if_neg (by omega)]; exact ld_zero (List.pairwise_iff_getElem.1 hT.ord b a hb ha q).1
 refine r1.ext s1 fun j hj=>?_;have hc:=hR.coord hp hd j hj;rw[comb_zero fun r hr'=> .inl ?_]at hc
 ·have:=(sub_cg r1.len s1.len hj).symm.trans hc
  obtain⟨m,hm⟩:=this;exact⟨m,by grind⟩
 ·obtain⟨k,hk,rfl⟩:=List.getElem_of_mem hr'
  have hkw:=(hR.one _ (List.getElem_mem hk)).1;have e1:=val R hR i k h1 hk;have e2:=val S hS i k h2 (by omega);rw[←ldq k hk (by omega)]at e2;have hcg:=sub_cg (p:=p) (k:=1) r1.len s1.len hkw;rw[e1,e2]at hcg;refine hcg.trans ⟨0,by grind⟩|>.eq (hdk.rng _ hkw).1 (hdk.rng _ hkw).2 (Int.le_refl _) hp
end Rv
namespace Rv
set_option linter.unusedVariables false
set_option linter.unusedSimpArgs false
section
variable {p:Int} {w:Nat}
theorem sub_zero(hp:0 < p){v u:List Int}(hv:VecOK p w v)(hu:u.length=w):subv p v u 0=v:=
 (sub_ok hp hv.len hu).ext hv fun j hj=>(sub_cg hv.len hu hj).trans ⟨0,by grind⟩
def scl(p:Int)(v:List Int)(k:Int):List Int:=v.map fun x=> x*k% p
theorem scl_sub(hp:0 < p){v:List Int}(hv:VecOK p w v)(k:Int):scl p v k=subv p (zv w) v (-k):=by
 have hl:(scl p v k).length=w:=by simp[scl,hv.len]
 refine nth_ext (hl.trans (sub_ok hp (zv_ok hp w).len hv.len).len.symm) fun j hj=>?_;rw[hl]at hj;rw[nth_sub (zv_ok hp w).len hv.len hj,nth_zv,nth_lt (by rw[hl]; exact hj),nth_lt (show j < v.length by rw[hv.len]; exact hj)];simp only[scl,List.getElem_map]
 congr 1; grind
theorem nth_scl(hp:0 < p){v:List Int}(hv:VecOK p w v)(k:Int){j:Nat}(hj:j < w):Cg p (nth (scl p v k) j) (nth v j*k):=by
 rw[scl_sub hp hv];exact(sub_cg (zv_ok hp w).len hv.len hj).trans (by rw[nth_zv]; exact⟨0,by grind⟩)
theorem scl_ok(hp:0 < p){v:List Int}(hv:VecOK p w v)(k:Int):VecOK p w (scl p v k):=by
 rw[scl_sub hp hv]; exact sub_ok hp (zv_ok hp w).len hv.len
theorem scl_back(hp:0 < p){v:List Int}(hv:VecOK p w v){k m:Int}(hk:Cg p (m*k) 1):subv p (zv w) (scl p v k) (-m)=v:=
 (sub_ok hp (zv_ok hp w).len (scl_ok hp hv k).len).ext hv fun j hj=>(sub_cg (zv_ok hp w).len (scl_ok hp hv k).len hj).trans (by
  rw[nth_zv];have h1:=Cg.mul (Cg.refl p m) (nth_scl hp hv k hj);have h2:=Cg.mul hk (Cg.refl p (nth v j));obtain⟨a,ha⟩:=h1;obtain⟨b,hb⟩:=h2;exact⟨a+b,by grind⟩)
def rest(p:Int)(R:List (List Int))(v:List Int):List Int:=R.foldl (fun v r=> subv p v r (nth v (ld r))) v
theorem rest_ok(hp:0 < p):∀ {R:List (List Int)} (hR:Rows p w R) {v:List Int} (hv:VecOK p w v),VecOK p w (rest p R v)
 | [],_,v,hv=> hv
 |r::R,hR,v,hv=> rest_ok hp (R:=R) (fun s hs=> hR s (List.mem_cons_of_mem _ hs)) (sub_ok hp hv.len (hR r List.mem_cons_self).len)
theorem rest_iff(hp:0 < p){T:List (List Int)}(hT:Rows p w T):∀ {R:List (List Int)} (hR:Rows p w R) (h:∀r∈R,Sp p w T r) {v:List Int} (hv:VecOK p w v),Sp p w T (rest p R v)↔Sp p w T v
 | [],_,_,v,hv=> Iff.rfl
 |r::R,hR,h,v,hv=> by
  have h1:=rest_iff hp hT (R:=R) (fun s hs=> hR s (List.mem_cons_of_mem _ hs)) (fun s hs=> h s (List.mem_cons_of_mem _ hs)) (sub_ok hp hv.len (hR r List.mem_cons_self).len (k:=nth v (ld r)));exact h1.trans (sub_iff hp hT hv (h r List.mem_cons_self) _)
theorem rest_keep(hp:0 < p){j:Nat}(hj:j < w):∀ {R:List (List Int)} (hR:Rows p w R) (h:∀r∈R,nth r j=0) {v:List Int} (hv:VecOK p w v),nth v j=0→nth (rest p R v) j=0
 | [],_,_,v,hv,h0=> h0
 |r::R,hR,h,v,hv,h0=> by
  refine rest_keep hp hj (R:=R) (fun s hs=> hR s (List.mem_cons_of_mem _ hs)) (fun s hs=> h s (List.mem_cons_of_mem _ hs)) (sub_ok hp hv.len (hR r List.mem_cons_self).len) ?_;rw[nth_sub hv.len (hR r List.mem_cons_self).len hj,h0,h r List.mem_cons_self]; simp
theorem rest_lead(hp:0 < p):∀ {R:List (List Int)} (hR:Red p w R) {v:List Int} (hv:VecOK p w v),∀r∈R,nth (rest p R v) (ld r)=0
 | [],_,v,hv,r,hr=> by cases hr
 |s::R,hR,v,hv,r,hr=> by
  obtain⟨o1,o2⟩:=List.pairwise_cons.1 hR.ord;have hR':Red p w R:=⟨fun t ht=> hR.ok t (List.mem_cons_of_mem _ ht),fun t ht=> hR.one t (List.mem_cons_of_mem _ ht),o2⟩;have hs:=hR.ok s List.mem_cons_self;have hv':VecOK p w (subv p v s (nth v (ld s))):=sub_ok hp hv.len hs.len;rcases List.mem_cons.1 hr with rfl|hr
  ·refine rest_keep hp (hR.one _ List.mem_cons_self).1 hR'.ok (fun t ht=> ld_zero (o1 t ht).1) hv' ?_
   rw[nth_sub hv.len hs.len (hR.one _ List.mem_cons_self).1,(hR.one _ List.mem_cons_self).2]; simp
  ·exact rest_lead hp hR' hv' r hr
def insF(p:Int)(own:List Int)(a:Nat)(o:List Int):List Int:=subv p o own (nth o a)
def ins(p:Int)(own:List Int)(a:Nat):List (List Int)→List (List Int)
 | []=>[own]
 |o::out=> if a < ld o then own::insF p own a o::out.map (insF p own a)else insF p own a o::ins p own a out
theorem mem_ins{own:List Int}{a:Nat}{x:List Int}:∀ {out:List (List Int)},x∈ins p own a out↔x=own∨∃o∈out,x=insF p own a o
 | []=> by simp[ins]
 |o::out=> by
  unfold ins;split
  ·simp only[List.mem_cons,List.mem_map]
   constructor
   ·rintro(h|h|⟨q,h1,h2⟩)
    ·exact .inl h
    ·exact .inr ⟨o,.inl rfl,h⟩
    ·exact .inr ⟨q,.inr h1,h2.symm⟩
   ·rintro(h|⟨q,rfl|h1,h2⟩)
    ·exact .inl h
    ·exact .inr (.inl h2)
    ·exact .inr (.inr ⟨q,h1,h2.symm⟩)
  ·simp only[List.mem_cons,mem_ins (out:=out)]
   constructor
   ·rintro(h|h|⟨q,h1,h2⟩)
    ·exact .inr ⟨o,.inl rfl,h⟩
    ·exact .inl h
    ·exact .inr ⟨q,.inr h1,h2⟩
   ·rintro(h|⟨q,rfl|h1,h2⟩)
    ·exact .inr (.inl h)
    ·exact .inl h2
    ·exact .inr (.inr ⟨q,h1,h2⟩)
structure New (p:Int) (w:Nat) (R:List (List Int)) (own:List Int) (a:Nat):Prop where
 ok:VecOK p w own
 lt:a < w
 z:∀j,j < a→nth own j=0
 one:nth own a=1
 zl:∀r∈R,nth own (ld r)=0
theorem New.ld{R:List (List Int)}{own:List Int}{a:Nat}(n:New p w R own a):Rv.ld own=a:=ld_of n.z (by rw[n.one]; decide)
theorem insF_one(hp:1 < p){R:List (List Int)}{own:List Int}{a:Nat}(hR:Red p w R)(n:New p w R own a){o:List Int}(ho:o∈R):VecOK p w (insF p own a o)∧ld (insF p own a o)=ld o∧nth (insF p own a o) (ld o)=1∧nth (insF p own a o) a=0∧ld o≠a:=by
 have hok:=hR.ok o ho;have hone:=hR.one o ho;have hne:Rv.ld o≠a:=fun e=> by have:=n.zl o ho; rw[e,n.one]at this; cases this
 have h1:nth (insF p own a o) (Rv.ld o)=1:=by
  unfold insF;rw[nth_sub hok.len n.ok.len hone.1,hone.2,n.zl o ho];simp only[Int.mul_zero,Int.sub_zero];exact Int.emod_eq_of_lt (by decide) hp
 refine⟨sub_ok (by omega) hok.len n.ok.len,?_,h1,?_,hne⟩
 ·refine ld_of (fun j hj=>?_) (by rw[h1]; decide)
  have hjw:j < w:=by omega
  unfold insF;rw[nth_sub hok.len n.ok.len hjw,ld_zero hj];rcases Nat.lt_or_gt_of_ne hne with q|q
  ·rw[n.z j (by omega)]; simp
  ·rw[ld_zero q]; simp
 ·unfold insF
  rw[nth_sub hok.len n.ok.len n.lt,n.one]; simp
theorem insF_zero(hp:1 < p){R:List (List Int)}{own:List Int}{a:Nat}(hR:Red p w R)(n:New p w R own a){o s:List Int}(ho:o∈R)(hs:s∈R)(h:nth o (ld s)=0):nth (insF p own a o) (ld s)=0:=by
 unfold insF;rw[nth_sub (hR.ok o ho).len n.ok.len (hR.one s hs).1,h,n.zl s hs]; simp
theorem ins_ord(hp:1 < p){R:List (List Int)}{own:List Int}{a:Nat}(hR:Red p w R)(n:New p w R own a):∀ {out:List (List Int)},(∀o∈out,o∈R)→out.Pairwise (fun r s=> ld r < ld s∧nth r (ld s)=0)→(ins p own a out).Pairwise fun r s=> ld r < ld s∧nth r (ld s)=0
 | [],_,_=> by simp[ins]
 |o::out,hm,ho=> by
  obtain⟨o1,o2⟩:=List.pairwise_cons.1 ho;have hoR:=hm o List.mem_cons_self;have hmap:∀ {l:List (List Int)},(∀x∈l,x∈R)→l.Pairwise (fun r s=> Rv.ld r < Rv.ld s∧nth r (Rv.ld s)=0)→(l.map (insF p own a)).Pairwise fun r s=> Rv.ld r < Rv.ld s∧nth r (Rv.ld s)=0:=fun {l} hl hp'=> by
   rw[List.pairwise_map];refine hp'.imp_of_mem fun hr hs q=>?_;rw[(insF_one hp hR n (hl _ hr)).2.1,(insF_one hp hR n (hl _ hs)).2.1];exact⟨q.1,insF_zero hp hR n (hl _ hr) (hl _ hs) q.2⟩
  unfold ins;split
  ·rename_i ha
   rw[←List.map_cons];refine List.pairwise_cons.2 ⟨fun x hx=>?_,hmap hm ho⟩;obtain⟨q,hq,rfl⟩:=List.mem_map.1 hx;rw[(insF_one hp hR n (hm q hq)).2.1,n.ld];refine⟨?_,n.zl q (hm q hq)⟩;rcases List.mem_cons.1 hq with rfl|hq
   ·exact ha
   ·have:=(o1 q hq).1; omega
  ·rename_i ha
   have hf:=insF_one hp hR n hoR;refine List.pairwise_cons.2 ⟨fun x hx=>?_,ins_ord hp hR n (fun q hq=> hm q (List.mem_cons_of_mem _ hq)) o2⟩;rw[hf.2.1];rcases mem_ins.1 hx with rfl|⟨q,hq,rfl⟩
   ·rw[n.ld]; exact⟨by have:=hf.2.2.2.2; omega,hf.2.2.2.1⟩
   ·have hqR:=hm q (List.mem_cons_of_mem _ hq)
    rw[(insF_one hp hR n hqR).2.1];exact⟨(o1 q hq).1,insF_zero hp hR n hoR hqR (o1 q hq).2⟩
theorem ins_red(hp:1 < p){R:List (List Int)}{own:List Int}{a:Nat}(hR:Red p w R)(n:New p w R own a):Red p w (ins p own a R):=by
 refine⟨fun x hx=>?_,fun x hx=>?_,ins_ord hp hR n (fun _ h=> h) hR.ord⟩
 ·rcases mem_ins.1 hx with rfl|⟨q,hq,rfl⟩
  ·exact n.ok
  ·exact(insF_one hp hR n hq).1
 ·rcases mem_ins.1 hx with rfl|⟨q,hq,rfl⟩
  ·rw[n.ld]; exact⟨n.lt,n.one⟩
  ·have h:=insF_one hp hR n hq
   rw[h.2.1]; exact⟨(hR.one q hq).1,h.2.2.1⟩
structure EchOf (p:Int) (w:Nat) (rows out:List (List Int)):Prop where
 red:Red p w out
 sp:∀v,Sp p w out v↔Sp p w rows v
theorem EchOf.nil(p:Int)(w:Nat):EchOf p w [] []:=⟨⟨fun r h=>(nomatch h),fun r h=>(nomatch h),.nil⟩,fun v=> Iff.rfl⟩
theorem EchOf.skip(hp:1 < p){rows out:List (List Int)}{row:List Int}(h:EchOf p w rows out)(hr:Rows p w rows)(hrow:VecOK p w row)(h0:∀j,j < w→nth (rest p out row) j=0):EchOf p w (rows++[row]) out:=by
 have hz:rest p out row=zv w:=(rest_ok (by omega) h.red.ok hrow).ext (zv_ok (by omega) w) fun j hj=> by rw[h0 j hj,nth_zv]; exact .refl _ _
 have hin:Sp p w out row:=(rest_iff (by omega) h.red.ok h.red.ok (fun r hr=> .mem (by omega) h.red.ok hr) hrow).1 (by rw[hz]; exact .zero);refine⟨h.red,fun v=>⟨fun hv=>((h.sp v).1 hv).mono fun r hr=> List.mem_append_left _ hr,fun hv=> hv.into (by omega) h.red.ok fun r hr'=>?_⟩⟩;rcases List.mem_append.1 hr' with q|q
 ·exact(h.sp r).2 (.mem (by omega) hr q)
 ·have:r=row:=by simpa using q
  rw[this]; exact hin
theorem EchOf.new(hp:1 < p){rows out:List (List Int)}{row:List Int}(h:EchOf p w rows out)(hrow:VecOK p w row){a:Nat}(ha:a < w)(hz:∀j,j < a→nth (rest p out row) j=0){k:Int}(hk:Cg p (nth (rest p out row) a*k) 1):
  New p w out (scl p (rest p out row) k) a:=by
 have hp0:0 < p:=by omega
 have hrest:=rest_ok hp0 h.red.ok hrow;have hown:=scl_ok hp0 hrest k;refine⟨hown,ha,fun j hj=>?_,?_,fun r hr'=>?_⟩
 ·have h1:=(nth_scl hp0 hrest k (show j < w by omega))
  rw[hz j hj]at h1;exact(h1.trans ⟨0,by grind⟩).eq (hown.rng _ (by omega)).1 (hown.rng _ (by omega)).2 (Int.le_refl _) hp0
 ·exact((nth_scl hp0 hrest k ha).trans hk).eq (hown.rng _ ha).1 (hown.rng _ ha).2 (by decide) hp
 ·have hl:=(h.red.one r hr').1
  have h1:=nth_scl hp0 hrest k hl;rw[rest_lead hp0 h.red hrow r hr']at h1;exact(h1.trans ⟨0,by grind⟩).eq (hown.rng _ hl).1 (hown.rng _ hl).2 (Int.le_refl _) hp0
theorem ins_len{own:List Int}{a:Nat}:∀ {out:List (List Int)},(ins p own a out).length=out.length+1
 | []=> rfl
 |o::out=> by
  unfold ins;split
  ·simp
  ·simp[ins_len (out:=out)]
theorem EchOf.put(hp:1 < p){rows out:List (List Int)}{row:List Int}(h:EchOf p w rows out)(hr:Rows p w rows)(hrow:VecOK p w row){a:Nat}(ha:a < w)(hz:∀j,j < a→nth (rest p out row) j=0){k:Int}(hk:Cg p (nth (rest p out row) a*k) 1):
  EchOf p w (rows++[row]) (ins p (scl p (rest p out row) k) a out):=by
 have hp0:0 < p:=by omega
 have hrest:=rest_ok hp0 h.red.ok hrow;have hown:=scl_ok hp0 hrest k;have n:New p w out (scl p (rest p out row) k) a:=h.new hp hrow ha hz hk;have hred:=ins_red hp h.red n;have hT:Rows p w (rows++[row]):=fun r hr'=> by
  rcases List.mem_append.1 hr' with q|q
  ·exact hr r q
  ·have:r=row:=by simpa using q
   rw[this]; exact hrow
 have hout:∀r∈out,Sp p w (rows++[row]) r:=fun r hr'=>((h.sp r).1 (.mem hp0 h.red.ok hr')).mono fun s hs=> List.mem_append_left _ hs;have hro:Sp p w (rows++[row]) (scl p (rest p out row) k):=by
  rw[scl_sub hp0 hrest];exact((rest_iff hp0 hT h.red.ok hout hrow).2 (.mem hp0 hT (List.mem_append_right _ List.mem_cons_self))).scale hp0 hT _
 have hown':Sp p w (ins p (scl p (rest p out row) k) a out) (scl p (rest p out row) k):= .mem hp0 hred.ok (mem_ins.2 (.inl rfl));have hback:∀r∈out,Sp p w (ins p (scl p (rest p out row) k) a out) r:=fun r hr'=> by
  have h1:Sp p w (ins p (scl p (rest p out row) k) a out) (insF p (scl p (rest p out row) k) a r):= .mem hp0 hred.ok (mem_ins.2 (.inr ⟨r,hr',rfl⟩));exact(sub_iff hp0 hred.ok (h.red.ok r hr') hown' _).1 h1
 refine⟨hred,fun v=>⟨fun hv=> hv.into hp0 hT fun r hr'=>?_,fun hv=> hv.into hp0 hred.ok fun r hr'=>?_⟩⟩
 ·rcases mem_ins.1 hr' with rfl|⟨o,ho,rfl⟩
  ·exact hro
  ·exact Sp.lin hp0 hT (hout o ho) hro _
 ·rcases List.mem_append.1 hr' with q|q
  ·exact((h.sp r).2 (.mem hp0 hr q)).into hp0 hred.ok hback
  ·have e:r=row:=by simpa using q
   rw[e];refine(rest_iff hp0 hred.ok h.red.ok hback hrow).1 ?_;have:=hown'.scale hp0 hred.ok (-(nth (rest p out row) a))
   rwa[scl_back hp0 hrest hk]at this
end
end Rv
namespace Rv
set_option linter.unusedVariables false
set_option linter.unusedSimpArgs false
def rowAt(l:List (List Int))(i:Nat):List Int:=l.getD i []
theorem rowAt_lt{l:List (List Int)}{i:Nat}(h:i < l.length):rowAt l i=l[i]:=by simp[rowAt,h]
theorem mem_row{l:List (List Int)}{r:List Int}:r∈l↔∃i,i < l.length∧rowAt l i=r:=by
 constructor
 ·intro h
  obtain⟨i,hi,rfl⟩:=List.getElem_of_mem h;exact⟨i,hi,rowAt_lt hi⟩
 ·rintro⟨i,hi,rfl⟩
  rw[rowAt_lt hi]; exact List.getElem_mem hi
theorem row_mem{l:List (List Int)}{i:Nat}(h:i < l.length):rowAt l i∈l:=mem_row.2 ⟨i,h,rfl⟩
section
variable {p:Int} {w:Nat}
structure GInv (p:Int) (w:Nat) (rows:List (List Int)) (c:Nat) (l:List (List Int)) (d:Nat):Prop where
 ok:Rows p w l
 sp:∀v,Sp p w l v↔Sp p w rows v
 dn:d≤l.length
 cw:c≤w
 lead:∀k,k < d→ld (rowAt l k) < c∧nth (rowAt l k) (ld (rowAt l k))=1
 up:∀k m,k < m→m < d→ld (rowAt l k) < ld (rowAt l m)
 z1:∀i k,i < l.length→k < d→i≠k→nth (rowAt l i) (ld (rowAt l k))=0
 z2:∀i j,d≤i→i < l.length→j < c→nth (rowAt l i) j=0
theorem GInv.start{rows:List (List Int)}(h:Rows p w rows):GInv p w rows 0 rows 0:=
 ⟨h,fun v=> Iff.rfl,Nat.zero_le _,Nat.zero_le _,fun k hk=> absurd hk (Nat.not_lt_zero _),fun k m _ hk=> absurd hk (Nat.not_lt_zero _),fun i k _ hk=> absurd hk (Nat.not_lt_zero _),fun i j _ _ hj=> absurd hj (Nat.not_lt_zero _)⟩
theorem GInv.skip{rows l:List (List Int)}{c d:Nat}(g:GInv p w rows c l d)(hc:c < w)(h:∀i,d≤i→i < l.length→nth (rowAt l i) c=0):GInv p w rows (c+1) l d:=
 ⟨g.ok,g.sp,g.dn,hc,fun k hk=>⟨Nat.lt_succ_of_lt (g.lead k hk).1,(g.lead k hk).2⟩,g.up,g.z1,fun i j h1 h2 h3=> by
  rcases Nat.lt_or_ge j c with q|q
  ·exact g.z2 i j h1 h2 q
  ·have:j=c:=by omega
   subst this; exact h i h1 h2⟩
theorem GInv.done{rows l:List (List Int)}{c d:Nat}(hp:1 < p)(g:GInv p w rows c l d)(h:c=w∨d=l.length):EchOf p w rows (l.take d):=by
 have hp0:0 < p:=by omega
 have hdl:=g.dn;have hm:∀r,r∈l.take d↔∃i,i < d∧rowAt l i=r:=fun r=> by
  rw[mem_row];have hl:(l.take d).length=d:=by simp; omega
  rw[hl];constructor
  ·rintro⟨i,h1,h2⟩
   refine⟨i,h1,?_⟩;rw[rowAt_lt (by omega)];rw[rowAt_lt (by omega),List.getElem_take]at h2; exact h2
  ·rintro⟨i,h1,h2⟩
   refine⟨i,h1,?_⟩;rw[rowAt_lt (by omega)]at h2;rw[rowAt_lt (by omega),List.getElem_take]; exact h2
 have hok:Rows p w (l.take d):=fun r hr=> g.ok r (List.mem_of_mem_take hr);refine⟨⟨hok,fun r hr=>?_,?_⟩,fun v=>(Iff.intro (fun hv=>?_) fun hv=>?_).trans (g.sp v)⟩
 ·obtain⟨i,hi,rfl⟩:=(hm r).1 hr
  have h1:=g.lead i hi;have h2:=g.cw;exact⟨by omega,h1.2⟩
 ·rw[List.pairwise_iff_getElem]
  intro i j h1 h2 hij;have e1:(l.take d)[i]=rowAt l i:=by rw[List.getElem_take,rowAt_lt]
  have e2:(l.take d)[j]=rowAt l j:=by rw[List.getElem_take,rowAt_lt]
  simp only[List.length_take]at h1 h2;rw[e1,e2];exact⟨g.up i j hij (by omega),g.z1 i j (by omega) (by omega) (by omega)⟩
 ·exact hv.mono fun r hr=> List.mem_of_mem_take hr
 ·refine hv.into hp0 hok fun r hr=>?_
  obtain⟨i,hi,rfl⟩:=mem_row.1 hr;rcases Nat.lt_or_ge i d with q|q
  ·exact .mem hp0 hok ((hm _).2 ⟨i,q,rfl⟩)
  ·rcases h with h|h
   ·have hz:rowAt l i=zv w:=(g.ok _ hr).ext (zv_ok hp0 w) fun j hj=> by rw[g.z2 i j q hi (by omega),nth_zv]; exact .refl _ _
    rw[hz]; exact .zero
   ·omega
def gstep(p:Int)(c d:Nat)(row:List Int)(l:List (List Int)):List (List Int):=(l.set d row).mapIdx fun i r=> if i=d then r else subv p r row (nth r c)
theorem gstep_len{c d:Nat}{row:List Int}{l:List (List Int)}:(gstep p c d row l).length=l.length:=by simp[gstep]
theorem gstep_at{c d:Nat}{row:List Int}{l:List (List Int)}(hd:d < l.length){i:Nat}(hi:i < l.length):rowAt (gstep p c d row l) i=if i=d then row else subv p (rowAt l i) row (nth (rowAt l i) c):=by
 rw[rowAt_lt (by rw[gstep_len]; exact hi),rowAt_lt hi];simp only[gstep,List.getElem_mapIdx];split
 ·rename_i e; subst e; simp
 ·rename_i e; rw[List.getElem_set_ne (Ne.symm e)]
theorem GInv.put{rows l l2:List (List Int)}{c d j:Nat}{k:Int}(hp:1 < p)(g:GInv p w rows c l d)(hc:c < w)(hj:d≤j)(hjl:j < l.length)(hk:Cg p (nth (rowAt l j) c*k) 1)
  (h2l:l2.length=l.length) (h2:∀i,i < l.length→rowAt l2 i=rowAt l (if i=j then d else if i=d then j else i)):GInv p w rows (c+1) (gstep p c d (scl p (rowAt l j) k) l2) (d+1):=by
 have hp0:0 < p:=by omega
 have hdl:d < l.length:=by omega
 have hrj:=g.ok _ (row_mem hjl);have hrow:=scl_ok hp0 hrj k;generalize hR:scl p (rowAt l j) k=row at*
 -- the new row
 have zr:∀m,m < c→nth row m=0:=fun m hm=> by
  have h1:=nth_scl hp0 hrj k (show m < w by omega);rw[hR,g.z2 j m hj hjl hm]at h1;exact(h1.trans ⟨0,by grind⟩).eq (hrow.rng _ (by omega)).1 (hrow.rng _ (by omega)).2 (Int.le_refl _) hp0
 have or:nth row c=1:=by
  have h1:=nth_scl hp0 hrj k hc;rw[hR]at h1;exact(h1.trans hk).eq (hrow.rng _ hc).1 (hrow.rng _ hc).2 (by decide) hp
 have lr:ld row=c:=ld_of zr (by rw[or]; decide);have hL:(gstep p c d row l2).length=l.length:=gstep_len.trans h2l;have ha:∀i,i < l.length→rowAt (gstep p c d row l2) i=if i=d then row else subv p (rowAt l2 i) row (nth (rowAt l2 i) c):=fun i hi=> gstep_at (by omega) (by omega)
 have ok2:∀i,i < l.length→VecOK p w (rowAt l2 i):=fun i hi=> by
  rw[h2 i hi];refine g.ok _ (row_mem ?_);split
  ·exact hdl
  ·split
   ·exact hjl
   ·exact hi
 have okn:Rows p w (gstep p c d row l2):=fun r hr=> by
  obtain⟨i,hi,rfl⟩:=mem_row.1 hr;rw[hL]at hi;rw[ha i hi];split
  ·exact hrow
  ·exact sub_ok hp0 (ok2 i hi).len hrow.len
 -- rows of before keep what they have before c
 have keep:∀i m,i < l.length→i≠d→m < c→nth (rowAt (gstep p c d row l2) i) m=nth (rowAt l2 i) m:=fun i m hi hid hm=> by
  have hr:=(ok2 i hi).rng m (by omega);rw[ha i hi,if_neg hid,nth_sub (ok2 i hi).len hrow.len (by omega),zr m hm];simp only[Int.mul_zero,Int.sub_zero];exact Int.emod_eq_of_lt hr.1 hr.2
 have zc:∀i,i < l.length→i≠d→nth (rowAt (gstep p c d row l2) i) c=0:=fun i hi hid=> by
  rw[ha i hi,if_neg hid,nth_sub (ok2 i hi).len hrow.len hc,or]; simp
 have lo:∀i,i < d→rowAt l2 i=rowAt l i:=fun i hi=> by rw[h2 i (by omega),if_neg (by omega),if_neg (by omega)]
 have ldk:∀i,i < d→ld (rowAt (gstep p c d row l2) i)=ld (rowAt l i)∧nth (rowAt (gstep p c d row l2) i) (ld (rowAt l i))=1:=fun i hi=> by
  have h1:=g.lead i hi;have e1:nth (rowAt (gstep p c d row l2) i) (ld (rowAt l i))=1:=by rw[keep i _ (by omega) (by omega) h1.1,lo i hi,h1.2]
  refine⟨ld_of (fun m hm=>?_) (by rw[e1]; decide),e1⟩;rw[keep i m (by omega) (by omega) (by omega),lo i hi,ld_zero hm]
 have rd:rowAt (gstep p c d row l2) d=row:=by rw[ha d hdl,if_pos rfl]
 -- the space
 have hspR:Sp p w l row:=by rw[←hR,scl_sub hp0 hrj]; exact(Sp.mem hp0 g.ok (row_mem hjl)).scale hp0 g.ok _
 have hspN:Sp p w (gstep p c d row l2) row:=by
  have:=row_mem (l:=gstep p c d row l2) (i:=d) (by omega);rw[rd]at this;exact .mem hp0 okn this
 have back:∀i,i < l.length→i≠d→Sp p w (gstep p c d row l2) (rowAt l2 i):=fun i hi hid=> by
  have:=row_mem (l:=gstep p c d row l2) (i:=i) (by omega);rw[ha i hi,if_neg hid]at this;exact(sub_iff hp0 okn (ok2 i hi) hspN _).1 (.mem hp0 okn this)
 have backj:Sp p w (gstep p c d row l2) (rowAt l j):=by
  have:=hspN.scale hp0 okn (-(nth (rowAt l j) c));rw[←hR,scl_back hp0 hrj hk]at this;rw[←hR]; exact this
 have hsw:∀i,i < l.length→∃m,m < l.length∧rowAt l2 m=rowAt l i:=fun i hi=> by
  by_cases e:i=j
  ·exact⟨d,hdl,by rw[h2 d hdl]; subst e; by_cases q:d=i <;> simp[q]⟩
  ·by_cases e2:i=d
   ·exact⟨j,hjl,by rw[h2 j hjl,if_pos rfl,e2]⟩
   ·exact⟨i,hi,by rw[h2 i hi,if_neg e,if_neg e2]⟩
 refine⟨okn,fun v=>(Iff.intro (fun hv=>?_) fun hv=>?_).trans (g.sp v),by omega,hc,fun k' hk'=>?_,fun k' m hkm hm=>?_,fun i k' hi hk' hne=>?_,fun i m h1 hi hm=>?_⟩
 ·refine hv.into hp0 g.ok fun r hr=>?_
  obtain⟨i,hi,rfl⟩:=mem_row.1 hr;rw[hL]at hi;rw[ha i hi];split
  ·exact hspR
  ·refine Sp.lin hp0 g.ok ?_ hspR _
   rw[h2 i hi];refine .mem hp0 g.ok (row_mem ?_);split
   ·exact hdl
   ·exact hi
 ·refine hv.into hp0 okn fun r hr=>?_
  obtain⟨i,hi,rfl⟩:=mem_row.1 hr;by_cases e:i=j
  ·subst e; exact backj
  ·by_cases e2:i=d
   ·subst e2
    have:=back j hjl (fun q=> e q.symm)
    rwa[h2 j hjl,if_pos rfl]at this
   ·have:=back i hi e2
    rwa[h2 i hi,if_neg e,if_neg e2]at this
 ·rcases Nat.lt_or_ge k' d with q|q
  ·have:=ldk k' q
   rw[this.1];exact⟨by have:=(g.lead k' q).1; omega,this.2⟩
  ·have:k'=d:=by omega
   subst this;rw[rd,lr]; exact⟨Nat.lt_succ_self _,or⟩
 ·rcases Nat.lt_or_ge m d with q|q
  ·rw[(ldk k' (by omega)).1,(ldk m q).1]; exact g.up k' m hkm q
  ·have:m=d:=by omega
   subst this;rw[(ldk k' hkm).1,rd,lr]; exact(g.lead k' hkm).1
 ·rw[hL]at hi
  rcases Nat.lt_or_ge k' d with q|q
  ·rw[(ldk k' q).1]
   have hlc:=(g.lead k' q).1;by_cases e:i=d
   ·subst e; rw[rd]; exact zr _ hlc
   ·rw[keep i _ hi e hlc,h2 i hi]
    split
    ·exact g.z1 d k' hdl q (by omega)
    ·exact g.z1 i k' hi q hne
  ·have:k'=d:=by omega
   subst this;rw[rd,lr]; exact zc i hi hne
 ·rw[hL]at hi
  rcases Nat.lt_or_ge m c with q|q
  ·rw[keep i m hi (by omega) q,h2 i hi]
   split
   ·exact g.z2 d m (Nat.le_refl _) hdl q
   ·split
    ·omega
    ·exact g.z2 i m (by omega) hi q
  ·have:m=c:=by omega
   subst this;exact zc i hi (by omega)
end
theorem EchOf.same{p:Int}{w:Nat}(hp:1 < p){rows a b:List (List Int)}(ha:EchOf p w rows a)(hb:EchOf p w rows b):a=b:=
 ha.red.unique (by omega) hb.red fun v=>(ha.sp v).trans (hb.sp v).symm
end Rv
namespace Rv
set_option linter.unusedVariables false
set_option linter.unusedSimpArgs false
def unitv(n i:Nat):List Int:=(zv n).set i 1
theorem unitv_len(n i:Nat):(unitv n i).length=n:=by simp[unitv,zv]
theorem nth_unit{n i j:Nat}(hi:i < n):nth (unitv n i) j=if j=i then 1 else 0:=by
 rcases Nat.lt_or_ge j n with hj|hj
 ·rw[nth_lt (by rw[unitv_len]; exact hj)]
  unfold unitv;rw[List.getElem_set];by_cases e:i=j
  ·subst e; rw[if_pos rfl,if_pos rfl]
  ·rw[if_neg e,if_neg (Ne.symm e)]; simp[zv]
 ·rw[nth_out (by rw[unitv_len]; exact hj),if_neg (by omega)]
def units(n:Nat):List (List Int):=(List.range n).map (unitv n)
theorem units_len(n:Nat):(units n).length=n:=by simp[units]
section
variable {p:Int}
theorem unitv_ok(hp:1 < p){n i:Nat}(hi:i < n):VecOK p n (unitv n i):=⟨unitv_len n i,fun j _=> by rw[nth_unit hi]; split <;> omega⟩
theorem ld_unit{n i:Nat}(hi:i < n):ld (unitv n i)=i:=ld_of (fun j hj=> by rw[nth_unit hi,if_neg (by omega)]) (by rw[nth_unit hi,if_pos rfl]; decide)
theorem units_red(hp:1 < p)(n:Nat):Red p n (units n):=by
 have hm:∀r,r∈units n→∃i,i < n∧r=unitv n i:=fun r hr=> by
  obtain⟨i,hi,rfl⟩:=List.mem_map.1 hr;exact⟨i,List.mem_range.1 hi,rfl⟩
 refine⟨fun r hr=>?_,fun r hr=>?_,?_⟩
 ·obtain⟨i,hi,rfl⟩:=hm r hr; exact unitv_ok hp hi
 ·obtain⟨i,hi,rfl⟩:=hm r hr
  rw[ld_unit hi,nth_unit hi,if_pos rfl]; exact⟨hi,rfl⟩
 ·rw[List.pairwise_iff_getElem]
  intro i j h1 h2 hij;rw[units_len]at h1 h2;have e1:(units n)[i]'(by rw[units_len]; exact h1)=unitv n i:=by simp[units]
  have e2:(units n)[j]'(by rw[units_len]; exact h2)=unitv n j:=by simp[units]
  rw[e1,e2,ld_unit h1,ld_unit h2,nth_unit h1,if_neg (by omega)];exact⟨hij,rfl⟩
theorem nth_drop(r:List Int)(w j:Nat):nth (r.drop w) j=nth r (w+j):=by simp[nth]
theorem nth_app{r s:List Int}{j:Nat}:nth (r++s) j=if j < r.length then nth r j else nth s (j - r.length):=by
 unfold nth;rw[List.getD_eq_getElem?_getD,List.getD_eq_getElem?_getD,List.getD_eq_getElem?_getD];split
 ·rename_i h; rw[List.getElem?_append_left h]
 ·rename_i h; rw[List.getElem?_append_right (Nat.le_of_not_lt h)]
def tails(w:Nat)(E:List (List Int)):List (List Int):=(E.filter fun r=> decide (w≤ld r)).map (List.drop w)
theorem ld_drop{r:List Int}{w:Nat}(h:w≤ld r)(hl:ld r < r.length):ld (r.drop w)=ld r - w:=ld_of (fun j hj=> by rw[nth_drop]; exact ld_zero (by omega)) (by rw[nth_drop,show w+(ld r - w)=ld r by omega]; exact ld_ne hl)
theorem tails_red{w n:Nat}{E:List (List Int)}(h:Red p (w+n) E):Red p n (tails w E):=by
 have hm:∀x,x∈tails w E→∃r∈E,w≤ld r∧x=r.drop w:=fun x hx=> by
  obtain⟨r,hr,rfl⟩:=List.mem_map.1 hx;obtain⟨h1,h2⟩:=List.mem_filter.1 hr;exact⟨r,h1,by simpa using h2,rfl⟩
 refine⟨fun x hx=>?_,fun x hx=>?_,?_⟩
 ·obtain⟨r,hr,h1,rfl⟩:=hm x hx
  have hk:=h.ok r hr;exact⟨by rw[List.length_drop,hk.len]; omega,fun j hj=> by rw[nth_drop]; exact hk.rng _ (by omega)⟩
 ·obtain⟨r,hr,h1,rfl⟩:=hm x hx
  have hk:=h.ok r hr;have ho:=h.one r hr;rw[ld_drop h1 (by rw[hk.len]; exact ho.1),nth_drop,show w+(ld r - w)=ld r by omega];exact⟨by omega,ho.2⟩
 ·unfold tails
  rw[List.pairwise_map];refine(h.ord.sublist List.filter_sublist).imp_of_mem fun hr hs q=>?_;rename_i r s;obtain⟨r1,r2⟩:=List.mem_filter.1 hr;obtain⟨s1,s2⟩:=List.mem_filter.1 hs;have r2':w≤ld r:=by simpa using r2
  have s2':w≤ld s:=by simpa using s2
  rw[ld_drop r2' (by rw[(h.ok r r1).len]; exact(h.one r r1).1),ld_drop s2' (by rw[(h.ok s s1).len]; exact(h.one s s1).1),nth_drop,show w+(ld s - w)=ld s by omega];exact⟨by omega,q.2⟩
theorem EchOf.self{w:Nat}{E:List (List Int)}(h:Red p w E):EchOf p w E E:=⟨h,fun v=> Iff.rfl⟩
def longs(n:Nat)(rows:List (List Int)):List (List Int):=(List.range n).map fun i=> rowAt rows i++unitv n i
theorem longs_len(n:Nat)(rows:List (List Int)):(longs n rows).length=n:=by simp[longs]
theorem longs_at{n:Nat}{rows:List (List Int)}{i:Nat}(h:i < (longs n rows).length):(longs n rows)[i]=rowAt rows i++unitv n i:=by simp[longs]
theorem longs_ok(hp:1 < p){w:Nat}{rows:List (List Int)}(h:Rows p w rows):Rows p (w+rows.length) (longs rows.length rows):=fun x hx=> by
 obtain⟨i,hi,rfl⟩:=List.mem_map.1 hx;have hi':=List.mem_range.1 hi;have hr:=h _ (row_mem hi');have hu:=unitv_ok hp hi';refine⟨by rw[List.length_append,hr.len,hu.len],fun j hj=>?_⟩;rw[nth_app,hr.len];split
 ·rename_i q; exact hr.rng j q
 ·exact hu.rng _ (by omega)
end
end Rv
namespace Rv
set_option linter.unusedVariables false
set_option linter.unusedSimpArgs false
section
variable {p:Int} {w w':Nat}
structure Lin (p:Int) (w w':Nat) (φ:List Int→List Int):Prop where
 ok:∀u,VecOK p w u→VecOK p w' (φ u)
 sub:∀u v k,VecOK p w u→VecOK p w v→φ (subv p u v k)=subv p (φ u) (φ v) k
theorem sub_zv(hp:0 < p){w:Nat}:subv p (zv w) (zv w) 1=zv w:=
 (sub_ok hp (zv_ok hp w).len (zv_ok hp w).len).ext (zv_ok hp w) fun j hj=>(sub_cg (zv_ok hp w).len (zv_ok hp w).len hj).trans (by rw[nth_zv]; exact⟨0,by simp⟩)
theorem sub_self(hp:0 < p){w:Nat}{v:List Int}(hv:VecOK p w v):subv p v v 1=zv w:=
 (sub_ok hp hv.len hv.len).ext (zv_ok hp w) fun j hj=>(sub_cg hv.len hv.len hj).trans (by rw[nth_zv]; exact⟨0,by grind⟩)
theorem Lin.zero(hp:0 < p){φ:List Int→List Int}(h:Lin p w w' φ):φ (zv w)=zv w':=by
 have h0:=zv_ok hp w;have:=h.sub (zv w) (zv w) 1 h0 h0;rw[sub_zv hp,sub_self hp (h.ok _ h0)]at this;exact this
theorem Lin.rows{φ:List Int→List Int}(h:Lin p w w' φ){R:List (List Int)}(hR:Rows p w R):Rows p w' (R.map φ):=fun r hr=> by
 obtain⟨s,hs,rfl⟩:=List.mem_map.1 hr;exact h.ok s (hR s hs)
theorem Lin.sp(hp:0 < p){φ:List Int→List Int}(h:Lin p w w' φ){R:List (List Int)}(hR:Rows p w R){v:List Int}(hv:Sp p w R v):Sp p w' (R.map φ) (φ v):=by
 induction hv with
 |zero=> rw[h.zero hp]; exact .zero
 | @sub v r k hv hr ih=>
  rw[h.sub v r k (hv.ok hp hR) (hR r hr)];exact .sub k ih (List.mem_map_of_mem hr)
def leadsOf(T:List (List Int))(u:List Int):List Int:=T.map fun t=> nth u (ld t)
theorem Lin.comp{w'':Nat}{φ ψ:List Int→List Int}(h:Lin p w w' φ)(k:Lin p w' w'' ψ):Lin p w w'' fun u=> ψ (φ u):=
 ⟨fun u hu=> k.ok _ (h.ok u hu),fun u v c hu hv=> by show ψ (φ (subv p u v c))=subv p (ψ (φ u)) (ψ (φ v)) c; rw[h.sub u v c hu hv,k.sub _ _ _ (h.ok u hu) (h.ok v hv)]⟩
def sumI(f:Nat→Int):Nat→Int
 |0=> 0
 |n+1=> sumI f n+f n
theorem sumI_cg{f g:Nat→Int}:∀ {n:Nat},(∀i,i < n→Cg p (f i) (g i))→Cg p (sumI f n) (sumI g n)
 |0,_=> .refl _ _
 |n+1,h=> .add (sumI_cg fun i hi=> h i (by omega)) (h n (by omega))
theorem sumI_congr{f g:Nat→Int}{n:Nat}(h:∀i,i < n→f i=g i):sumI f n=sumI g n:=by
 induction n with
 |zero=> rfl
 |succ n ih=> unfold sumI; rw[ih fun i hi=> h i (by omega),h n (by omega)]
theorem sumI_zero{f:Nat→Int}{n:Nat}(h:∀i,i < n→f i=0):sumI f n=0:=by
 induction n with
 |zero=> rfl
 |succ n ih=> unfold sumI; rw[ih fun i hi=> h i (by omega),h n (by omega)]; rfl
theorem sumI_lin{f g:Nat→Int}{k:Int}:∀ {n:Nat},sumI (fun i=> f i - k*g i) n=sumI f n - k*sumI g n
 |0=> by simp[sumI]
 |n+1=> by unfold sumI; rw[sumI_lin (n:=n)]; grind
def dot(f:Nat→Int)(m:List (List Int))(n j:Nat):Int:=sumI (fun i=> f i*nth (rowAt m i) j) n
theorem dot_cg{f g:Nat→Int}{m:List (List Int)}{n j:Nat}(h:∀i,i < n→Cg p (f i) (g i)):Cg p (dot f m n j) (dot g m n j):=sumI_cg fun i hi=> .mul (h i hi) (.refl _ _)
theorem dot_lin{f g:Nat→Int}{k:Int}{m:List (List Int)}{n j:Nat}:dot (fun i=> f i - k*g i) m n j=dot f m n j - k*dot g m n j:=by
 unfold dot;rw[←sumI_lin];exact sumI_congr fun i _=> by grind
theorem dot_zero{f:Nat→Int}{m:List (List Int)}{n j:Nat}(h:∀i,i < n→f i=0):dot f m n j=0:=sumI_zero fun i hi=> by rw[h i hi]; simp
structure Graph (p:Int) (w n:Nat) (rows:List (List Int)) (u:List Int):Prop where
 ok:VecOK p (w+n) u
 at_:∀j,j < w→Cg p (nth u j) (dot (fun i=> nth u (w+i)) rows n j)
theorem Graph.sub(hp:0 < p){n:Nat}{rows:List (List Int)}{u v:List Int}(hu:Graph p w n rows u)(hv:Graph p w n rows v)(k:Int):Graph p w n rows (subv p u v k):=by
 refine⟨sub_ok hp hu.ok.len hv.ok.len,fun j hj=>?_⟩;refine(sub_cg hu.ok.len hv.ok.len (by omega)).trans (Cg.trans (.sub (hu.at_ j hj) (.mul (.refl _ _) (hv.at_ j hj))) ?_);rw[←dot_lin];exact dot_cg fun i hi=>(sub_cg hu.ok.len hv.ok.len (by omega)).symm
theorem Graph.zero(hp:0 < p){n:Nat}{rows:List (List Int)}:Graph p w n rows (zv (w+n)):=
 ⟨zv_ok hp _,fun j hj=> by rw[nth_zv,dot_zero fun i _=> nth_zv _ _]; exact .refl _ _⟩
theorem VecOK.drop{n:Nat}{u:List Int}(hu:VecOK p (w+n) u):VecOK p n (u.drop w):=⟨by rw[List.length_drop,hu.len]; omega,fun j hj=> by rw[nth_drop]; exact hu.rng _ (by omega)⟩
end
end Rv
namespace Rv
set_option linter.unusedVariables false
set_option linter.unusedSimpArgs false
section
variable {p:Int} {w:Nat}
theorem Sp.split(hp:0 < p){A B:List (List Int)}(hA:Rows p w A)(hB:Rows p w B){v:List Int}(hv:Sp p w (A++B) v):∃a b,Sp p w A a∧Sp p w B b∧v=subv p a b (-1):=by
 have hz:=zv_ok hp w;induction hv with
 |zero=> exact⟨_,_,.zero,.zero,(hz.ext (sub_ok hp hz.len hz.len) fun j hj=>((sub_cg hz.len hz.len hj).trans (by rw[nth_zv]; exact⟨0,by simp⟩)).symm)⟩
 | @sub v r k hv hr ih=>
  obtain⟨a,b,ha,hb,rfl⟩:=ih;have ao:=ha.ok hp hA;have bo:=hb.ok hp hB;have so:=sub_ok hp ao.len bo.len (k:= -1);rcases List.mem_append.1 hr with q|q
  ·have ro:=hA r q
   have aro:=sub_ok hp ao.len ro.len (k:=k);refine⟨_,b,.sub k ha q,hb,(sub_ok hp so.len ro.len).ext (sub_ok hp aro.len bo.len) fun j hj=>?_⟩;refine(sub_cg so.len ro.len hj).trans (Cg.trans (.sub (sub_cg ao.len bo.len hj) (.refl _ _)) (Cg.symm ((sub_cg aro.len bo.len hj).trans (Cg.trans (.sub (sub_cg ao.len ro.len hj) (.refl _ _)) ⟨0,by grind⟩))))
  ·have ro:=hB r q
   have bro:=sub_ok hp bo.len ro.len (k:=k);refine⟨a,_,ha,.sub k hb q,(sub_ok hp so.len ro.len).ext (sub_ok hp ao.len bro.len) fun j hj=>?_⟩;refine(sub_cg so.len ro.len hj).trans (Cg.trans (.sub (sub_cg ao.len bo.len hj) (.refl _ _)) (Cg.symm ((sub_cg ao.len bro.len hj).trans (Cg.trans (.sub (.refl _ _) (.mul (.refl _ _) (sub_cg bo.len ro.len hj))) ⟨0,by grind⟩))))
end
end Rv
namespace Rv
set_option linter.unusedVariables false
set_option linter.unusedSimpArgs false
set_option maxRecDepth 10000
theorem forI_inv{σ τ:Type}{B:Int→σ→Option (σ⊕τ)}{D:Int→σ→Option τ}(Inv:Nat→σ→Prop)(Q:τ→Prop)(n:Nat):
  ∀ (k i:Nat) (s:σ),i+k=n→Inv i s→(∀i s,i < n→Inv i s→(∃s',B i s=some (.inl s')∧Inv (i+1) s')∨∃t,B i s=some (.inr t)∧Q t)→(∀s,Inv n s→∃t,D n s=some t∧Q t)→∃t,forI B D k i s=some t∧Q t:=by
 intro k;induction k with
 |zero=>
  intro i s hk hI hb hd;have:i=n:=by omega
  subst this;exact hd s hI
 |succ k ih=>
  intro i s hk hI hb hd;simp only[forI];rcases hb i s (by omega) hI with⟨s',h1,h2⟩|⟨t,h1,h2⟩
  ·rw[h1]
   have:=ih (i+1) s' (by omega) h2 hb hd;simpa using this
  ·rw[h1]; exact⟨t,rfl,h2⟩
theorem forR_inv{σ τ:Type}{B:Int→σ→Option (σ⊕τ)}{D:Int→σ→Option τ}{hi:Int}(n:Nat)(hn:hi=n)(hs:n < 4611686018427387904)(Inv:Nat→σ→Prop)(Q:τ→Prop){s:σ}(h0:Inv 0 s)
  (hb:∀ (i:Nat) s,i < n→Inv i s→(∃s',B i s=some (.inl s')∧Inv (i+1) s')∨∃t,B i s=some (.inr t)∧Q t) (hd:∀s,Inv n s→∃t,D n s=some t∧Q t):∃t,forR 0 hi B D s=some t∧Q t:=by
 subst hn;unfold forR;rw[if_pos (by omega)];have e:((n:Int) - 0).toNat=n:=by omega
 rw[e];exact forI_inv Inv Q n n 0 s (by omega) h0 hb hd
theorem forR_from{σ τ:Type}{B:Int→σ→Option (σ⊕τ)}{D:Int→σ→Option τ}{lo hi:Int}(l n:Nat)(hl:lo=l)(hn:hi=n)(hln:l≤n)(hs:n < 4611686018427387904)(Inv:Nat→σ→Prop)(Q:τ→Prop){s:σ}(h0:Inv l s)
  (hb:∀ (i:Nat) s,i < n→Inv i s→(∃s',B i s=some (.inl s')∧Inv (i+1) s')∨∃t,B i s=some (.inr t)∧Q t) (hd:∀s,Inv n s→∃t,D n s=some t∧Q t):∃t,forR lo hi B D s=some t∧Q t:=by
 subst hn; subst hl;unfold forR;rw[if_pos (by omega)];have e:((n:Int) - (l:Int)).toNat=n - l:=by omega
 rw[e];exact forI_inv Inv Q n (n - l) l s (by omega) h0 hb hd
theorem loopW_inv{σ τ:Type}{S:σ→Option (σ⊕τ)}(μ:σ→Nat)(Inv:σ→Prop)(Q:τ→Prop){s:σ}(h0:Inv s)
  (hb:∀s,Inv s→(∃s',S s=some (.inl s')∧Inv s'∧μ s' < μ s)∨∃t,S s=some (.inr t)∧Q t):∃t,loopW S s=some t∧Q t:=by
 suffices∀k s,μ s≤k→Inv s→∃t,loopW S s=some t∧Q t from this _ s (Nat.le_refl _) h0
 intro k;induction k with
 |zero=>
  intro s hk hI;rcases hb s hI with⟨s',h1,h2,h3⟩|⟨t,h1,h2⟩
  ·omega
  ·exact⟨t,loopW_eq.2 (.inr h1),h2⟩
 |succ k ih=>
  intro s hk hI;rcases hb s hI with⟨s',h1,h2,h3⟩|⟨t,h1,h2⟩
  ·obtain⟨t,h4,h5⟩:=ih s' (by omega) h2
   exact⟨t,loopW_eq.2 (.inl ⟨s',h1,h4⟩),h5⟩
  ·exact⟨t,loopW_eq.2 (.inr h1),h2⟩
theorem getI_nat{α:Type}{l:List α}{i:Nat}(h:i < l.length):getI l (i:Int)=some l[i]:=by
 unfold getI;rw[if_pos (by omega)];simp[h]
theorem getI_getD{α:Type}{l:List α}{i:Nat}(h:i < l.length)(d:α):getI l (i:Int)=some (l.getD i d):=by
 rw[getI_nat h]; simp[h]
theorem chk_ok{n:Int}(h0: -9223372036854775808≤n)(h1:n < 9223372036854775808):chk n=some n:=by
 unfold chk; rw[if_pos ⟨h0,h1⟩]
theorem setI_nat{α:Type}{l:List α}{i:Nat}(h:i < l.length)(y:α):setI l (i:Int) y=some (l.set i y):=by
 unfold setI;rw[if_pos (by omega),Int.toNat_natCast]
theorem remI_ok{a b:Int}(h:b≠0):remI a b=some (a.tmod b):=by unfold remI; rw[if_neg h]
theorem mkL_ok{α:Type}{b:Nat}{n:Int}{z:α}(k:Nat)(hn:n=k)(h:k*b≤1099511627776)(h2:k≤1099511627776):mkL b n z=some (List.replicate k z):=by
 subst hn;unfold mkL;rw[if_pos ⟨by omega,by omega,by omega⟩,Int.toNat_natCast]
theorem app_ok{α:Type}{b:Nat}{l l':List α}(h:(l.length+l'.length)*b≤1099511627776)(h2:l.length+l'.length≤1099511627776):app b l l'=some (l++l'):=by
 unfold app; rw[if_pos ⟨h,h2⟩]
def Tells(o:Option Bool)(P:Prop):Prop:=∃b,o=some b∧(b=true↔P)
theorem Tells.of_true{o:Option Bool}{P:Prop}(h:o=some true)(p:P):Tells o P:=⟨true,h,by simp[p]⟩
theorem Tells.of_false{o:Option Bool}{P:Prop}(h:o=some false)(p:¬P):Tells o P:=⟨false,h,by simp[p]⟩
theorem Tells.iff{o:Option Bool}{P Q:Prop}(h:Tells o P)(e:P↔Q):Tells o Q:=by
 obtain⟨b,h1,h2⟩:=h; exact⟨b,h1,h2.trans e⟩
theorem Tells.same{o o':Option Bool}{P:Prop}(h:Tells o P)(h':Tells o' P):∃b,o=some b∧o'=some b∧(b=true↔P):=by
 obtain⟨b,h1,h2⟩:=h;obtain⟨b',h3,h4⟩:=h';have:b=b':=by rw[Bool.eq_iff_iff]; exact h2.trans h4.symm
 exact⟨b,h1,by rw[this]; exact h3,h2⟩
theorem Tells.case{o:Option Bool}{P:Prop}(h:Tells o P):(o=some true∧P)∨(o=some false∧¬P):=by
 obtain⟨b,h1,h2⟩:=h;cases b with
 |true=> exact .inl ⟨h1,h2.1 rfl⟩
 |false=> exact .inr ⟨h1,fun p=> by have:=h2.2 p; cases this⟩
theorem Tells.dec{o:Option Bool}{P:Prop}[Decidable P](h:o=some (decide P)):Tells o P:=⟨decide P,h,by simp⟩
def IsP(p:Int):Prop:=p=2∨p=3∨p=5∨p=7
theorem IsP.range{p:Int}(h:IsP p):2≤p∧p≤7:=by unfold IsP at h; omega
def RowOK(p w:Int)(row:List Int):Prop:=(row.length:Int)=w∧∀x∈row,0≤x∧x < p
def TableOK(p c w:Int)(m:List (List Int)):Prop:=(m.length:Int)=c∧∀row∈m,RowOK p w row
theorem F54_eq(n lo hi:Int):F54 n lo hi=some (decide (lo≤n∧n≤hi)):=by
 unfold F54; by_cases h:lo≤n <;> simp[h]
theorem F56_eq(n lo hi:Int):F56 n lo hi=some (decide (lo≤n∧n≤hi)):=by
 unfold F56; by_cases h:lo≤n <;> simp[h]
theorem F78_tells(p:Int):Tells (F78 p) (IsP p):=by
 unfold F78 IsP;split
 ·exact .of_true rfl (by omega)
 split
 ·exact .of_true rfl (by omega)
 split
 ·exact .of_true rfl (by omega)
 ·exact⟨_,rfl,by simp; omega⟩
theorem F67_tells(p:Int):Tells (F67 p) (IsP p):=by
 unfold F67 IsP;split
 ·exact .of_true rfl (by omega)
 split
 ·exact .of_true rfl (by omega)
 split
 ·exact .of_true rfl (by omega)
 ·exact⟨_,rfl,by simp; omega⟩
def addRow(p x:Int)(out row:List Int):List Int:=List.zipWith (fun o y=>(o+x*y).tmod p) out row
def linN(p:Int)(n:Nat)(v:List Int)(m:List (List Int)):Nat→List Int
 |0=> List.replicate n 0
 |i+1=> addRow p (v.getD i 0) (linN p n v m i) (m.getD i [])
def lin(p:Int)(n:Nat)(v:List Int)(m:List (List Int)):List Int:=linN p n v m v.length
structure LinOK (p:Int) (n:Nat) (v:List Int) (m:List (List Int)):Prop where
 hp:2≤p∧p≤7
 hv:∀x∈v,0≤x∧x < p
 hl:v.length≤m.length
 hr:∀l∈m,l.length=n∧∀y∈l,0≤y∧y < p
 hn:n≤1048576
 hvl:v.length≤1048576
theorem small_mul{p x y o:Int}(hp:2≤p∧p≤7)(hx:0≤x∧x < p)(hy:0≤y∧y < p)(ho:0≤o∧o < p):
  chk (x*y)=some (x*y)∧chk (o+x*y)=some (o+x*y)∧0≤(o+x*y).tmod p∧(o+x*y).tmod p < p:=by
 have h1:0≤x*y:=Int.mul_nonneg hx.1 hy.1;have h2:x*y≤6*6:=Int.mul_le_mul (by omega) (by omega) hy.1 (by omega);exact⟨chk_ok (by omega) (by omega),chk_ok (by omega) (by omega),Int.tmod_nonneg _ (by omega),Int.tmod_lt_of_pos _ (by omega)⟩
theorem addRow_len{p x:Int}{out row:List Int}(h:row.length=out.length):(addRow p x out row).length=out.length:=by simp[addRow,h]
theorem addRow_ok{p x:Int}(hp:2≤p∧p≤7)(hx:0≤x∧x < p){out row:List Int}(ho:∀o∈out,0≤o∧o < p)(hy:∀y∈row,0≤y∧y < p):∀o∈addRow p x out row,0≤o∧o < p:=by
 intro o hm;unfold addRow at hm;obtain⟨i,hi,rfl⟩:=List.getElem_of_mem hm;simp at hi ⊢;exact(small_mul hp hx (hy _ (List.getElem_mem (by omega))) (ho _ (List.getElem_mem (by omega)))).2.2
theorem linN_ok{p:Int}{n:Nat}{v:List Int}{m:List (List Int)}(H:LinOK p n v m):∀i,i≤v.length→(linN p n v m i).length=n∧∀o∈linN p n v m i,0≤o∧o < p:=by
 intro i;induction i with
 |zero=> intro _; refine⟨by simp[linN],fun o ho=>?_⟩; simp[linN]at ho; obtain⟨_,rfl⟩:=ho; have:=H.hp; omega
 |succ i ih=>
  intro hi;obtain⟨h1,h2⟩:=ih (by omega);have e1:v.getD i 0=v[i]:=by simp[show i < v.length by omega]
  have hm:i < m.length:=by have:=H.hl; omega
  have e2:m.getD i []=m[i]:=by simp[hm]
  have hr:=H.hr _ (List.getElem_mem hm);simp only[linN,e1,e2];exact⟨by rw[addRow_len (by rw[hr.1,h1]),h1],addRow_ok H.hp (H.hv _ (List.getElem_mem _)) h2 hr.2⟩
theorem F115_eq{l:List Int}{f:Int→Option Bool}(P:Int→Bool)(hl:l.length≤1099511627776)(hf:∀x∈l,f x=some (P x)):∃i:Int,F115 l f=some i∧(0≤i↔∃x∈l,P x=true):=by
 unfold F115;have hs:l.length < 4611686018427387904:=by omega
 obtain⟨t,h1,h2⟩:=forR_inv (B:=F115_1_B l f) (D:=F115_1_D l f) (hi:=l.length) l.length rfl hs (fun i _=>∀k (hk:k < i) (h2:k < l.length),P l[k]=false) (fun t=>(t= .inl ()∧∀x∈l,P x=false)∨∃i:Nat,t= .inr (i:Int)∧∃x∈l,P x=true) (s:=()) (fun k hk=> by omega) (by
  intro i _ hi hI;unfold F115_1_B;rw[getI_nat hi,ob,hf _ (List.getElem_mem hi),ob];cases hp:P l[i]with
  |true=> right; exact⟨_,rfl,.inr ⟨i,rfl,_,List.getElem_mem hi,hp⟩⟩
  |false=>
   left;refine⟨(),rfl,fun k hk h2=>?_⟩;by_cases e:k=i
   ·subst e; exact hp
   ·exact hI k (by omega) h2) (by
  intro _ hI;refine⟨.inl (),rfl,.inl ⟨rfl,fun x hx=>?_⟩⟩;obtain⟨k,hk,rfl⟩:=List.getElem_of_mem hx;exact hI k hk hk)
 rw[h1];rcases h2 with⟨rfl,h2⟩|⟨i,rfl,h2⟩
 ·exact⟨-1,rfl,⟨fun h=> by omega,fun⟨x,hx,hp⟩=> by rw[h2 x hx]at hp; cases hp⟩⟩
 ·exact⟨i,rfl,⟨fun _=> h2,fun _=> Int.natCast_nonneg i⟩⟩
theorem F82_eq{l:List Int}{f:Int→Option Bool}(P:Int→Bool)(hl:l.length≤1099511627776)(hf:∀x∈l,f x=some (P x)):F82 l f=some (l.any P):=by
 obtain⟨i,h1,h2⟩:=F115_eq P hl hf;unfold F82;rw[h1,ob];have:decide (0≤i)=l.any P:=by
  rw[Bool.eq_iff_iff];simp only[decide_eq_true_eq,List.any_eq_true];exact h2
 rw[this]
theorem F92_tells{l:List Int}(hl:l.length≤1099511627776):Tells (F92 l) (∀x∈l,x=0):=by
 unfold F92;have h:F82 l (fun x=> F118 x)=some (l.any fun x=> !decide (x=0)):=F82_eq _ hl (fun x _=> rfl);rw[h,ob];exact⟨_,rfl,by simp[List.not_any_eq_all_not]⟩
structure SmallC (x:GComplex):Prop where
 d:x.Dims.length≤1048576
 m:x.Maps.length≤1048576
 r:∀m∈x.Maps,m.length≤1048576∧∀l∈m,l.length≤1048576
structure ShapeC (x:GComplex):Prop where
 p:IsP x.Prime
 dl:1≤x.Dims.length∧x.Dims.length≤6
 ml:x.Maps.length+1=x.Dims.length
 dims:∀d∈x.Dims,0≤d∧d≤8
def TabAt(x:GComplex)(k:Nat):Prop:=TableOK x.Prime (x.Dims.getD (k+1) 0) (x.Dims.getD k 0) (x.Maps.getD k [])
def SqAt(x:GComplex)(k:Nat):Prop:=∀row∈x.Maps.getD k [],∀y∈lin x.Prime (x.Dims.getD (k - 1) 0).toNat row (x.Maps.getD (k - 1) []),y=0
structure ValidC (x:GComplex):Prop extends ShapeC x where
 tab:∀k,k < x.Maps.length→TabAt x k
 sq:∀k,0 < k→k < x.Maps.length→SqAt x k
theorem lin_len{p:Int}{n:Nat}{v:List Int}{m:List (List Int)}(H:LinOK p n v m):(lin p n v m).length=n:=(linN_ok H _ (Nat.le_refl _)).1
theorem F86_eq{x:GComplex}(h:x.Dims.length≤1048576):F86 x=some ((x.Dims.length:Int) - 1):=by
 unfold F86; rw[chk_ok (by omega) (by omega),ob]
structure SmallF (x:GFiltered):Prop where
 c:SmallC x.Complex
 l:x.Levels.length≤1048576
 r:∀q∈x.Levels,q.length≤1048576
def numAt(ms:List (List (List Int)))(k i j:Nat):Int:=((ms.getD k []).getD i []).getD j 0
def InT(ms:List (List (List Int)))(k i j:Nat):Prop:=k < ms.length∧i < (ms.getD k []).length∧j < ((ms.getD k []).getD i []).length
theorem getD_mem{α:Type}{l:List α}{i:Nat}(h:i < l.length)(d:α):l.getD i d∈l:=by
 rw[List.getD_eq_getElem?_getD,List.getElem?_eq_getElem h]; exact List.getElem_mem h
theorem F76_eq{x:GComplex}(hs:x.Dims.length≤1048576){k:Nat}(h:k+1 < x.Dims.length)(hm:k < x.Maps.length):F76 x ((k+1:Nat):Int)=some (x.Maps.getD k []):=by
 unfold F76;have e:(((k+1:Nat):Int) - 1)=(k:Int):=by omega
 rw[chk_ok (by omega) (by omega),ob,F54_eq,ob,if_pos (by simp; omega),chk_ok (by omega) (by omega),ob,e,getI_getD hm [],ob]
abbrev Long0(n:Int):Prop:= -9223372036854775808≤n∧n≤9223372036854775807
theorem eq_loop{n:Nat}{B:Int→Unit→Option (Unit⊕(Unit⊕Bool))}{D:Int→Unit→Option (Unit⊕Bool)}(hn:n≤1048576)(hB:∀ (i:Nat) (s:Unit),i < n→B i s=some (.inl ()))(hD:∀i s,D i s=some (.inl ())):forR 0 (n:Int) B D ()=some (.inl ()):=by
 have hlen:n < 4611686018427387904:=by omega
 obtain⟨t,h1,h2⟩:=forR_inv (B:=B) (D:=D) n rfl hlen (fun _ _=> True) (fun t=> t= .inl ()) (s:=()) trivial (fun i s hi _=> .inl ⟨_,hB i s hi,trivial⟩) (fun s _=>⟨_,hD _ _,rfl⟩);rw[h1,h2]
theorem F30_same{a:List Int}(h:a.length≤1048576):F30 a a=some true:=by
 unfold F30;rw[if_pos rfl,eq_loop (B:=F30_1_B a a) (D:=F30_1_D a a) h (fun i s hi=> by unfold F30_1_B; rw[getI_nat hi,ob,ob,if_pos rfl]) (fun i s=> rfl),ob]
structure SmallT (ms:List (List (List Int))):Prop where
 m:ms.length≤1048576
 r:∀m∈ms,m.length≤1048576∧∀r∈m,r.length≤1048576
def TabM(x:GComplex)(ms:List (List (List Int)))(k:Nat):Prop:=TableOK x.Prime (x.Dims.getD (k+1) 0) (x.Dims.getD k 0) (ms.getD k [])
structure MapsOK (x:GComplex) (ms:List (List (List Int))):Prop where
 v:ValidC x
 l:ms.length=x.Maps.length
 t:∀k,k < ms.length→TabM x ms k
abbrev T3s:=List (List (List Int))
structure Shp (s u:T3s):Prop where
 l:s.length=u.length
 t:∀k,k < u.length→(s.getD k []).length=(u.getD k []).length
 r:∀k,k < u.length→∀i,i < (u.getD k []).length→((s.getD k []).getD i []).length=((u.getD k []).getD i []).length
theorem Shp.refl(s:T3s):Shp s s:=⟨rfl,fun _ _=> rfl,fun _ _ _ _=> rfl⟩
theorem Shp.trans{a b c:T3s}(h:Shp a b)(k:Shp b c):Shp a c:=
 ⟨h.l.trans k.l,fun n hn=>(h.t n (by rw[k.l]; exact hn)).trans (k.t n hn),fun n hn i hi=>(h.r n (by rw[k.l]; exact hn) i (by rw[k.t n hn]; exact hi)).trans (k.r n hn i hi)⟩
theorem Shp.symm{a b:T3s}(h:Shp a b):Shp b a:=
 ⟨h.l.symm,fun n hn=>(h.t n (by rw[←h.l]; exact hn)).symm,fun n hn i hi=>(h.r n (by rw[←h.l]; exact hn) i (by rw[←h.t n (by rw[←h.l]; exact hn)]; exact hi)).symm⟩
theorem Shp.inT{s t:T3s}(h:Shp s t){k i j:Nat}(q:InT t k i j):InT s k i j:=by
 obtain⟨q1,q2,q3⟩:=q;exact⟨by rw[h.l]; exact q1,by rw[h.t k q1]; exact q2,by rw[h.r k q1 i q2]; exact q3⟩
theorem getD_ext{α:Type}{l l':List α}(d:α)(h:l.length=l'.length)(hv:∀k,k < l'.length→l.getD k d=l'.getD k d):l=l':=by
 apply List.ext_getElem h;intro k h1 h2;have:=hv k h2;simpa[h1,h2]using this
theorem Shp.eq{s t:T3s}(h:Shp s t)(hv:∀k i j,InT t k i j→numAt s k i j=numAt t k i j):s=t:=by
 refine getD_ext [] h.l fun k hk=> getD_ext [] (h.t k hk) fun i hi=> getD_ext 0 (h.r k hk i hi) fun j hj=> hv k i j ⟨hk,hi,hj⟩
def put3(s:T3s)(k i j:Nat)(z:Int):T3s:=s.set k ((s.getD k []).set i (((s.getD k []).getD i []).set j z))
theorem getD_set{α:Type}{l:List α}{k k':Nat}{x d:α}(hk:k < l.length):(l.set k x).getD k' d=if k'=k then x else l.getD k' d:=by
 rw[List.getD_eq_getElem?_getD,List.getElem?_set];by_cases e:k=k'
 ·subst e; rw[if_pos rfl,if_pos hk,if_pos rfl]; rfl
 ·rw[if_neg e,if_neg (fun q=> e q.symm),List.getD_eq_getElem?_getD]
theorem put3_shp{s:T3s}{k i j:Nat}(h:InT s k i j)(z:Int):Shp (put3 s k i j z) s:=by
 obtain⟨h1,h2,h3⟩:=h;refine⟨by simp[put3],fun n hn=>?_,fun n hn m hm=>?_⟩
 ·unfold put3; rw[getD_set h1]; split
  ·rename_i e; subst e; simp
  ·rfl
 ·unfold put3; rw[getD_set h1]; split
  ·rename_i e; subst e
   rw[getD_set h2]; split
   ·rename_i e; subst e; simp
   ·rfl
  ·rfl
theorem put3_at{s:T3s}{k i j:Nat}(h:InT s k i j)(z:Int)(k' i' j':Nat):numAt (put3 s k i j z) k' i' j'=if k'=k∧i'=i∧j'=j then z else numAt s k' i' j':=by
 obtain⟨h1,h2,h3⟩:=h;unfold numAt put3;rw[getD_set h1];by_cases e:k'=k
 ·subst e
  rw[if_pos rfl,getD_set h2];by_cases e:i'=i
  ·subst e
   rw[if_pos rfl,getD_set h3];by_cases e:j'=j
   ·subst e; simp
   ·rw[if_neg e,if_neg (by simp[e])]
  ·rw[if_neg e,if_neg (by simp[e])]
 ·rw[if_neg e,if_neg (by simp[e])]
def q0(p a b:Int):Int:=(a+b).tmod p
def q1(p a b:Int):Int:=((a+b).tmod p+p).tmod p
theorem q0_range{p a b:Int}(hp:2≤p∧p≤7)(ha:0≤a∧a < p)(hb:0≤b∧b < p):0≤q0 p a b∧q0 p a b < p:=by
 unfold q0;rw[Int.tmod_eq_emod_of_nonneg (by omega)];exact⟨Int.emod_nonneg _ (by omega),Int.emod_lt_of_pos _ (by omega)⟩
theorem q1_eq{p a b:Int}(hp:2≤p∧p≤7)(ha:0≤a∧a < p)(hb:0≤b∧b < p):q1 p a b=q0 p a b:=by
 have h:=q0_range hp ha hb;unfold q0 at h;unfold q1 q0;rw[Int.tmod_eq_emod_of_nonneg (show 0≤(a+b).tmod p+p by omega),Int.add_emod_right,Int.emod_eq_of_lt h.1 h.2]
theorem q1_zero{p b:Int}(hp:2≤p∧p≤7)(hb:0≤b∧b < p):q1 p 0 b=b:=by
 rw[q1_eq hp (by omega) hb];unfold q0;rw[Int.zero_add,Int.tmod_eq_emod_of_nonneg hb.1,Int.emod_eq_of_lt hb.1 hb.2]
def Rng(p:Int)(s:T3s):Prop:=∀k i j,InT s k i j→0≤numAt s k i j∧numAt s k i j < p
theorem F75_eq{p:Int}(hp:2≤p∧p≤7){s:T3s}{k i j:Nat}{v:Int}(h:InT s k i j)(hk:k≤1048576)(ho:0≤numAt s k i j∧numAt s k i j < p)(hv:0≤v∧v < p):
  F75 p ((k:Int)+1) i j v s=some (put3 s k i j (q1 p (numAt s k i j) v)):=by
 obtain⟨h1,h2,h3⟩:=h;have e1:((k:Int)+1 - 1)=(k:Int):=by omega
 have hq:=q0_range hp ho hv;have ho':numAt s k i j=((s.getD k []).getD i []).getD j 0:=rfl;unfold q0 at hq;rw[ho']at hq ho;unfold F75;rw[chk_ok (by omega) (by omega),ob,e1,getI_getD h1 [],ob,getI_getD h2 [],ob,getI_getD h3 0,ob,chk_ok (by omega) (by omega),ob,remI_ok (by omega),ob,chk_ok (by omega) (by omega),ob,remI_ok (by omega),ob,setI_nat h3,ob,setI_nat h2,ob,setI_nat h1];rfl
def AT(q:Int→Int→Int)(s0 ms:T3s)(D:Nat→Nat→Nat→Prop)(s:T3s):Prop:=
 Shp s s0∧∀k i j,InT s0 k i j→(D k i j→numAt s k i j=q (numAt s0 k i j) (numAt ms k i j))∧(¬D k i j→numAt s k i j=numAt s0 k i j)
theorem AT.imp{q:Int→Int→Int}{s0 ms:T3s}{D D':Nat→Nat→Nat→Prop}{s:T3s}(h:AT q s0 ms D s)(hd:∀k i j,InT s0 k i j→(D k i j↔D' k i j)):AT q s0 ms D' s:=
 ⟨h.1,fun k i j hin=>⟨fun d=>(h.2 k i j hin).1 ((hd k i j hin).2 d),fun d=>(h.2 k i j hin).2 fun x=> d ((hd k i j hin).1 x)⟩⟩
theorem AT.zero(q:Int→Int→Int)(s0 ms:T3s):AT q s0 ms (fun _ _ _=> False) s0:=⟨.refl _,fun k i j _=>⟨fun x=> x.elim,fun _=> rfl⟩⟩
theorem AT.step{q:Int→Int→Int}{s0 ms:T3s}{D D':Nat→Nat→Nat→Prop}{s:T3s}(h:AT q s0 ms D s){k i j:Nat}(hin:InT s0 k i j)(hn:¬D k i j)(hd:∀k' i' j',D' k' i' j'↔D k' i' j'∨(k'=k∧i'=i∧j'=j)):AT q s0 ms D' (put3 s k i j (q (numAt s k i j) (numAt ms k i j))):=by
 have hs:=h.1.inT hin;refine⟨(put3_shp hs _).trans h.1,fun k' i' j' hin'=>?_⟩;rw[put3_at hs];by_cases e:k'=k∧i'=i∧j'=j
 ·obtain⟨rfl,rfl,rfl⟩:=e
  rw[if_pos ⟨rfl,rfl,rfl⟩,(h.2 _ _ _ hin').2 hn];exact⟨fun _=> rfl,fun d=> absurd ((hd _ _ _).2 (.inr ⟨rfl,rfl,rfl⟩)) d⟩
 ·rw[if_neg e]
  refine⟨fun d=>(h.2 _ _ _ hin').1 (((hd _ _ _).1 d).resolve_right e),fun d=>(h.2 _ _ _ hin').2 fun x=> d ((hd _ _ _).2 (.inl x))⟩
theorem cpy_loop{α:Type}{l:List α}{B:Int→List α→Option (List α⊕List α)}{D:Int→List α→Option (List α)}(hl:l.length≤1048576)
  (hB:∀ (i:Nat) (hi:i < l.length) (s:List α),s.length=i→B i s=some (.inl (s++[l[i]]))) (hD:∀i s,D i s=some s):forR 0 (l.length:Int) B D []=some l:=by
 have hlen:l.length < 4611686018427387904:=by omega
 obtain⟨t,h1,h2⟩:=forR_inv (B:=B) (D:=D) l.length rfl hlen (fun i s=> s=l.take i) (fun t=> t=l) (s:=[]) (by simp) (by
  rintro i s hi rfl;left;refine⟨_,hB i hi _ (by simp; omega),?_⟩;rw[List.take_append_getElem]) (by
  rintro s rfl;exact⟨_,hD _ _,by simp⟩)
 rw[h1,h2]
theorem app_nil{b:Nat}{α:Type}{l:List α}(h:l.length*b≤1099511627776)(h2:l.length≤1099511627776):app b [] l=some l:=by
 rw[app_ok (by simpa using h) (by simpa using h2)]; rfl
theorem F94_eq{l:List Int}(h:l.length≤1048576):F94 l=some l:=by
 unfold F94; rw[app_nil (by omega) (by omega),ob]
theorem F96_eq{l:List Int}(h:l.length≤1048576):F96 l=some l:=by
 unfold F96; rw[app_nil (by omega) (by omega)]
theorem TabM.len{x:GComplex}{ms:T3s}{k:Nat}(h:TabM x ms k):((ms.getD k []).length:Int)=x.Dims.getD (k+1) 0:=h.1
theorem MapsOK.self{x:GComplex}(h:ValidC x):MapsOK x x.Maps:=⟨h,rfl,fun k hk=> h.tab k hk⟩
theorem MapsOK.rng{x:GComplex}{ms:T3s}(h:MapsOK x ms):Rng x.Prime ms:=by
 rintro k i j ⟨h1,h2,h3⟩;exact((h.t k h1).2 _ (getD_mem h2 [])).2 _ (getD_mem h3 0)
theorem MapsOK.shp{x:GComplex}{ms ns:T3s}(h:MapsOK x ms)(k:MapsOK x ns):Shp ms ns:=by
 have e:ms.length=ns.length:=h.l.trans k.l.symm;refine⟨e,fun n hn=>?_,fun n hn i hi=>?_⟩
 ·have a:=(h.t n (by omega)).1
  have b:=(k.t n hn).1;omega
 ·have a:=(h.t n (by omega)).1
  have b:=(k.t n hn).1;have c:=((h.t n (by omega)).2 _ (getD_mem (show i < (ms.getD n []).length by omega) [])).1;have d:=((k.t n hn).2 _ (getD_mem hi [])).1;omega
def zT(dims:List Int)(k:Nat):List (List Int):=List.replicate (dims.getD (k+1) 0).toNat (List.replicate (dims.getD k 0).toNat (0:Int))
def zM(dims:List Int):T3s:=(List.range (dims.length - 1)).map (zT dims)
theorem F74_2_eq{dims:List Int}(o:T3s)(a b:Int)(c:List Int){n:Nat}(h1:1≤n)(hn:n < dims.length)(hs:dims.length≤1048576)(hd:∀d∈dims,0≤d∧d≤8):
  forR 0 (dims.getD n 0) (F74_2_B dims o a c n b) (F74_2_D dims o a c n b) []=some (zT dims (n - 1)):=by
 have q:=hd _ (getD_mem hn 0);have q':=hd _ (getD_mem (show n - 1 < dims.length by omega) 0);have e1:((n:Int) - 1)=((n - 1:Nat):Int):=by omega
 obtain⟨t,g1,g2⟩:=forR_inv (B:=F74_2_B dims o a c n b) (D:=F74_2_D dims o a c n b) (hi:=dims.getD n 0) (dims.getD n 0).toNat (by omega) (by omega) (fun j s=> s=List.replicate j (List.replicate (dims.getD (n - 1) 0).toNat (0:Int))) (fun t=> t=zT dims (n - 1)) (s:=[]) (by simp) (by
  rintro j s hj rfl;left;refine⟨List.replicate (j+1) (List.replicate (dims.getD (n - 1) 0).toNat (0:Int)),?_,rfl⟩;unfold F74_2_B;rw[chk_ok (by omega) (by omega),ob,e1,getI_getD (show n - 1 < dims.length by omega) 0,ob,mkL_ok (dims.getD (n - 1) 0).toNat (by omega) (by omega) (by omega),ob,app_ok (by simp; omega) (by simp; omega),ob,List.replicate_succ']) (by
  rintro s rfl;refine⟨_,rfl,?_⟩;unfold zT;rw[show n - 1+1=n by omega])
 rw[g1,g2]
theorem F74_eq{p:Int}{dims:List Int}(h1:1≤dims.length)(hs:dims.length≤1048576)(hd:∀d∈dims,0≤d∧d≤8):F74 p dims=some ⟨p,dims,zM dims⟩:=by
 have hlen:dims.length < 4611686018427387904:=by omega
 unfold F74;obtain⟨t,g1,g2⟩:=forR_from (B:=F74_1_B dims) (D:=F74_1_D dims) 1 dims.length rfl rfl h1 hlen (fun n s=> 1≤n∧s=((List.range (n - 1)).map (zT dims),p,dims)) (fun t=> t=(zM dims,p,dims)) (s:=([],p,dims)) ⟨Nat.le_refl _,rfl⟩ (by
  rintro n s hn ⟨hn1,rfl⟩;left;refine⟨((List.range n).map (zT dims),p,dims),?_,by omega,rfl⟩;unfold F74_1_B;simp only;rw[getI_getD hn 0,ob,F74_2_eq _ _ _ _ hn1 hn hs hd,ob,app_ok (by simp; omega) (by simp; omega),ob];obtain⟨m,rfl⟩:∃m,n=m+1:=⟨n - 1,by omega⟩;rw[List.range_succ,List.map_append]; rfl) (by
  rintro s ⟨_,rfl⟩;exact⟨_,rfl,rfl⟩)
 have g1':forR 1 (dims.length:Int) (F74_1_B dims) (F74_1_D dims) ([],p,dims)=some t:=g1;rw[g1',g2,ob]
theorem zM_at{dims:List Int}{k:Nat}(hk:k < dims.length - 1):(zM dims).getD k []=zT dims k:=by
 unfold zM;rw[List.getD_eq_getElem?_getD,List.getElem?_map,List.getElem?_range hk]; rfl
inductive Ch {α:Type} (R:α→Int→Int→Prop):List α→Int→Int→Prop
 |nil (k:Int):Ch R [] k k
 |cons {a:α} {l:List α} {k j m:Int}:R a k j→Ch R l j m→Ch R (a::l) k m
theorem Ch.snoc{α:Type}{R:α→Int→Int→Prop}{a:α}{j m:Int}(h:R a j m):∀ {l:List α} {k:Int},Ch R l k j→Ch R (l++[a]) k m
 |_,_,.nil _=> .cons h (.nil _)
 |_,_,.cons p q=> .cons p (Ch.snoc h q)
theorem take_set_app{α:Type}{l:List α}{i:Nat}(hi:i < l.length)(a:α):(l.set i a).take (i+1)=l.take i++[a]:=by
 rw[List.take_add_one,List.getElem?_set_self hi,List.take_set_of_le (Nat.le_refl _)]; rfl
theorem mark_loop{α:Type}{l:List α}{R:α→Int→Int→Prop}{M k:Int}{B:Int→List α×Int→Option ((List α×Int)⊕(List α×Int))}{D:Int→List α×Int→Option (List α×Int)}(hl:l.length≤1048576)(hM:0≤M)
  (hB:∀ (i:Nat) (hi:i < l.length) (s:List α) (j:Int),s.length=l.length→s[i]? =some l[i]→k≤j→j≤k+i*M→∃a m,B i (s,j)=some (.inl (s.set i a,m))∧R a j m∧j≤m∧m≤j+M) (hD:∀i s,D i s=some s):
  ∃r j,forR 0 (l.length:Int) B D (l,k)=some (r,j)∧Ch R r k j∧k≤j∧j≤k+l.length*M∧r.length=l.length:=by
 have hlen:l.length < 4611686018427387904:=by omega
 obtain⟨t,h1,h2,h3,h4,h5⟩:=forR_inv (B:=B) (D:=D) l.length rfl hlen (fun i s=> s.1.length=l.length∧(∀n,i≤n→s.1[n]? =l[n]?)∧Ch R (s.1.take i) k s.2∧k≤s.2∧s.2≤k+i*M) (fun t=> Ch R t.1 k t.2∧k≤t.2∧t.2≤k+l.length*M∧t.1.length=l.length) (s:=(l,k)) ⟨rfl,fun _ _=> rfl,by simpa using Ch.nil k,Int.le_refl _,by simp⟩ (by
  rintro i ⟨s,j⟩ hi ⟨p1,p2,p3,p4,p5⟩;simp only at p1 p2 p3 p4 p5;left;obtain⟨a,m,q1,q2,q3,q4⟩:=hB i hi s j p1 (by rw[p2 i (Nat.le_refl _)]; simp[hi]) p4 p5;refine⟨_,q1,by simp[p1],fun n hn=>?_,?_,by simp only; omega,?_⟩
  ·simp only
   rw[List.getElem?_set_ne (by omega)]; exact p2 n (by omega)
  ·simp only
   rw[take_set_app (by omega)]; exact p3.snoc q2
  ·simp only
   rw[Int.natCast_add,Int.add_mul]; omega) (by
  rintro⟨s,j⟩ ⟨p1,p2,p3,p4,p5⟩;simp only at p1 p2 p3 p4 p5;refine⟨_,hD _ _,?_,p4,p5,p1⟩;rw[←p1,List.take_length]at p3;exact p3)
 exact⟨t.1,t.2,h1,h2,h3,h4,h5⟩
theorem held_loop{α:Type}{l:List α}{R:α→Int→Int→Prop}{k m:Int}{B:Int→Int→Option (Int⊕(Int⊕Int))}{D:Int→Int→Option (Int⊕Int)}(hl:l.length≤1048576)(hc:Ch R l k m)
  (hB:∀ (i:Nat) (hi:i < l.length) (s j:Int),k≤s→R l[i] s j→B i s=some (.inl j)) (hR:∀a s j,R a s j→s≤j) (hD:∀i s,D i s=some (.inl s)):forR 0 (l.length:Int) B D k=some (.inl m):=by
 have hlen:l.length < 4611686018427387904:=by omega
 obtain⟨t,h1,h2⟩:=forR_inv (B:=B) (D:=D) l.length rfl hlen (fun i s=> k≤s∧Ch R (l.drop i) s m) (fun t=> t= .inl m) (s:=k) ⟨Int.le_refl _,hc⟩ (by
  rintro i s hi ⟨p0,p⟩;left;rw[List.drop_eq_getElem_cons hi]at p;cases p with
  |cons p q=>
   rename_i j;exact⟨j,hB i hi s j p0 p,by have:=hR _ _ _ p; omega,q⟩) (by
  rintro s ⟨_,p⟩;rw[List.drop_length]at p;cases p;exact⟨_,hD _ _,rfl⟩)
 rw[h1,h2]
def Mk0(n:Int)(k m:Int):Prop:=n=k∧m=k+1
def Mk1(l:List Int)(k m:Int):Prop:=l.length≤1048576∧k≤m∧m≤k+1048576∧Ch Mk0 l k m
theorem F31_mk{l:List Int}(h:l.length≤1048576){k:Int}(h0:0≤k)(h1:k≤9223372036850000000):∃r m,F31 l k=some (r,m)∧Mk1 r k m:=by
 obtain⟨r,j,g1,g2,g3,g4,g5⟩:=mark_loop (R:=Mk0) (k:=k) (B:=F31_1_B) (D:=F31_1_D) (M:=1) h (by decide) (by
  intro i hi s j e1 e2 e3 e4;unfold F31_1_B;simp only;rw[setI_nat (by omega),ob,chk_ok (by omega) (by omega),ob];exact⟨_,_,rfl,⟨rfl,rfl⟩,by omega,by omega⟩) (fun i s=> rfl)
 exact⟨r,j,g1,by omega,g3,by omega,g2⟩
theorem F32_held{l:List Int}{k m:Int}(h:Mk1 l k m)(h0:0≤k)(h1:k≤4611686018427387904):F32 l k=some m:=by
 obtain⟨hl,h2,h3,hc⟩:=h;unfold F32;have:=held_loop (B:=F32_1_B l) (D:=F32_1_D l) (k:=k) (m:=m) hl (R:=fun a s j=> Mk0 a s j∧j≤m) (by
  clear h0 h1 h2 h3 hl;induction hc with
  |nil k=> exact .nil k
  |cons p q ih=>
   refine .cons ⟨p,?_⟩ ih;clear ih p;induction q with
   |nil=> exact Int.le_refl _
   |cons p q ih=> obtain⟨rfl,rfl⟩:=p; omega) (by
  rintro i hi s j hs ⟨⟨p,rfl⟩,hj⟩;unfold F32_1_B;rw[getI_nat hi,ob,if_pos p,chk_ok (by omega) (by omega),ob]) (fun a s j p=> by obtain⟨⟨_,rfl⟩,_⟩:=p; omega) (fun i s=> rfl)
 rw[this,ob]
theorem SmallC.zero:SmallC (⟨0,[],[]⟩:GComplex):=⟨by simp,by simp,by simp⟩
theorem SmallF.zero:SmallF (⟨⟨0,[],[]⟩,[]⟩:GFiltered):=⟨.zero,by simp,by simp⟩
theorem tmod_pos{a p:Int}(h:0≤a):a.tmod p=a% p:=Int.tmod_eq_emod_of_nonneg h
theorem tmod_cg{a p:Int}:Cg p (a.tmod p) a:=⟨-(a.tdiv p),by have:=Int.tmod_add_mul_tdiv a p; grind⟩
theorem F127_eq{p x:Int}(hp:2≤p∧p≤7):F127 p x=some (x% p):=by
 have h1:=Int.tmod_lt_of_pos x (show 0 < p by omega);have h2: -p < x.tmod p:=by
  have h3:=Int.tmod_lt_of_pos (-x) (show 0 < p by omega);rw[Int.neg_tmod]at h3; omega
 unfold F127;rw[remI_ok (by omega),ob,chk_ok (by omega) (by omega),ob,remI_ok (by omega),ob,tmod_pos (by omega)]
 congr 1
 exact Cg.emod ((tmod_cg.add (Cg.refl p p)).trans ⟨1,by grind⟩)
theorem idx_loop{α:Type}{l:List α}(g:Nat→α→α){B:Int→List α→Option (List α⊕List α)}{D:Int→List α→Option (List α)}(hl:l.length≤1048576)
  (hB:∀ (i:Nat) (hi:i < l.length) (s:List α),s.length=l.length→(∀k,s[k]? =if k < i then(l[k]?).map (g k)else l[k]?)→B i s=some (.inl (s.set i (g i l[i])))) (hD:∀i s,D i s=some s):forR 0 (l.length:Int) B D l=some (l.mapIdx g):=by
 obtain⟨t,h1,h2⟩:=forR_inv (B:=B) (D:=D) l.length rfl (by omega) (fun i s=> s.length=l.length∧∀k,s[k]? =if k < i then(l[k]?).map (g k)else l[k]?) (fun t=> t=l.mapIdx g) (s:=l) ⟨rfl,fun k=> by simp⟩ (by
  rintro i s hi ⟨p1,p2⟩;left;refine⟨_,hB i hi s p1 p2,by rw[List.length_set]; exact p1,fun k=>?_⟩;rw[List.getElem?_set];by_cases e:i=k
  ·subst e; rw[if_pos rfl,if_pos (by omega),if_pos (by omega)]; simp[hi]
  ·rw[if_neg e,p2 k]
   by_cases q:k < i
   ·rw[if_pos q,if_pos (by omega)]
   ·rw[if_neg q,if_neg (by omega)]) (by
  rintro s ⟨p1,p2⟩;refine⟨s,hD _ _,?_⟩;apply List.ext_getElem?;intro k;rw[p2 k,List.getElem?_mapIdx];by_cases q:k < l.length
  ·rw[if_pos q]
  ·rw[if_neg q,List.getElem?_eq_none (by omega)]; rfl)
 rw[h1,h2]
theorem nth_get{v:List Int}{j:Nat}(h:j < v.length):getI v (j:Int)=some (nth v j):=by rw[getI_nat h,nth_lt h]
theorem rng_mul{p a b:Int}(hp:2≤p∧p≤7)(ha:0≤a∧a < p)(hb:0≤b∧b < p):0≤a*b∧a*b≤49:=by
 refine⟨Int.mul_nonneg ha.1 hb.1,?_⟩;have:=Int.mul_le_mul (show a≤7 by omega) (show b≤7 by omega) hb.1 (by decide);omega
theorem scl_loop{p k:Int}{w:Nat}(hp:2≤p∧p≤7)(hk:0≤k∧k < p){v:List Int}(hv:VecOK p w v)(hw:w≤1048576){B:Int→List Int→Option (List Int⊕List Int)}{D:Int→List Int→Option (List Int)}
  (hB:∀i row,B i row=(getI row i).bind fun x=>(chk (x*k)).bind fun m=>(remI m p).bind fun z=>(setI row i z).bind fun r=> some (.inl r)) (hD:∀i s,D i s=some s):forR 0 (v.length:Int) B D v=some (scl p v k):=by
 have hl:=hv.len;rw[idx_loop (fun _ x=> x*k% p) (by omega) (fun i hi s hs hk'=>?_) hD]
 ·congr 1
  apply List.ext_getElem <;> simp[scl]
 ·have h1:s[i]? =v[i]?:=by rw[hk' i,if_neg (Nat.lt_irrefl _)]
  have h2:s[i]'(by omega)=v[i]:=by
   have:=h1;rw[List.getElem?_eq_getElem (by omega),List.getElem?_eq_getElem hi]at this;exact Option.some.inj this
  have hr:=hv.rng i (by omega);rw[nth_lt hi]at hr;have hm:=rng_mul hp hr hk;rw[hB,getI_nat (show i < s.length by omega),ob,h2,chk_ok (by omega) (by omega),ob,remI_ok (by omega),ob,setI_nat (by omega),ob,tmod_pos hm.1]
theorem F136_eq{p k:Int}{w:Nat}(hp:2≤p∧p≤7)(hk:0≤k∧k < p){v u:List Int}(hv:VecOK p w v)(hu:VecOK p w u)(hw:w≤1048576):F136 p v u k=some (subv p v u k):=by
 have hl:=hv.len;have hul:=hu.len;have hsl:(subv p v u k).length=w:=by simp[subv,hl,hul]
 unfold F136;obtain⟨t,g1,g2⟩:=forR_inv (B:=F136_1_B p v u k) (D:=F136_1_D p v u k) v.length rfl (by omega) (fun i s=> s=(subv p v u k).take i) (fun t=> t=subv p v u k) (s:=[]) (by simp) (by
  rintro i s hi rfl;left;have hiw:i < w:=by omega
  have h1:=hv.rng i hiw;have h2:=hu.rng i hiw;have hm:=rng_mul hp hk h2;refine⟨(subv p v u k).take (i+1),?_,rfl⟩;unfold F136_1_B;rw[nth_get hi,ob,nth_get (by omega),ob,chk_ok (by omega) (by omega),ob,chk_ok (by omega) (by omega),ob,F127_eq hp,ob,app_ok (by simp; omega) (by simp; omega),ob]
  congr 2
  rw[←List.take_append_getElem (show i < (subv p v u k).length by omega)]
  congr 2
  have:=nth_sub (p:=p) (k:=k) hl hul hiw;rw[nth_lt (by omega)]at this;exact this.symm) (by
  rintro s rfl;refine⟨_,rfl,?_⟩;rw[List.take_of_length_le (by omega)])
 rw[g1,ob,g2]
theorem F81_ld{r:List Int}(hl:r.length≤1048576):F81 r=some (if ld r < r.length then(ld r:Int)else -1):=by
 unfold F81;obtain⟨t,g1,g2⟩:=forR_inv (B:=F81_1_B r) (D:=F81_1_D r) r.length rfl (by omega) (fun i _=> i≤ld r) (fun t=>(t= .inl ()∧r.length≤ld r)∨(t= .inr (ld r:Int)∧ld r < r.length)) (s:=()) (Nat.zero_le _) (by
  rintro i _ hi hI;unfold F81_1_B;rw[nth_get hi,ob];by_cases h:nth r i=0
  ·left
   rw[if_pos h];refine⟨(),rfl,?_⟩;rcases Nat.lt_or_ge i (ld r)with q|q
   ·exact q
   ·have:i=ld r:=by omega
    subst this;exact absurd h (ld_ne hi)
  ·right
   rw[if_neg h];refine⟨_,rfl,.inr ?_⟩;have:ld r=i:=by
    rcases Nat.lt_or_ge i (ld r)with q|q
    ·exact absurd (ld_zero q) h
    ·omega
   rw[this]; exact⟨rfl,hi⟩) (by
  rintro _ hI;exact⟨_,rfl,.inl ⟨rfl,hI⟩⟩)
 rw[g1,ob];rcases g2 with⟨rfl,h⟩|⟨rfl,h⟩
 ·rw[if_neg (by omega)]
 ·rw[if_pos h]
theorem inv_ex{p x:Int}(hp:IsP p)(h1:1≤x)(h2:x < p):∃m,1≤m∧m < p∧m*x% p=1:=by
 unfold IsP at hp;rcases hp with rfl|rfl|rfl|rfl
 ·obtain rfl:x=1:=by omega
  exact⟨1,by decide⟩
 ·have:x=1∨x=2:=by omega
  rcases this with rfl|rfl
  ·exact⟨1,by decide⟩
  ·exact⟨2,by decide⟩
 ·have:x=1∨x=2∨x=3∨x=4:=by omega
  rcases this with rfl|rfl|rfl|rfl
  ·exact⟨1,by decide⟩
  ·exact⟨3,by decide⟩
  ·exact⟨2,by decide⟩
  ·exact⟨4,by decide⟩
 ·have:x=1∨x=2∨x=3∨x=4∨x=5∨x=6:=by omega
  rcases this with rfl|rfl|rfl|rfl|rfl|rfl
  ·exact⟨1,by decide⟩
  ·exact⟨4,by decide⟩
  ·exact⟨5,by decide⟩
  ·exact⟨2,by decide⟩
  ·exact⟨3,by decide⟩
  ·exact⟨6,by decide⟩
theorem cg_one{p a:Int}(hp:2≤p∧p≤7)(h:a% p=1):Cg p a 1:=by
 have:=(Cg.mod p a).symm
 rwa[h]at this
theorem F135_eq{p x:Int}(hp:IsP p)(h1:1≤x)(h2:x < p):∃k,F135 p x=some k∧0≤k∧k < p∧Cg p (x*k) 1:=by
 have hr:=hp.range;obtain⟨m,m1,m2,m3⟩:=inv_ex hp h1 h2;obtain⟨n,hn⟩:∃n:Nat,p=n:=⟨p.toNat,by omega⟩;obtain⟨t,g1,k,rfl,g2,g3,g4⟩:=forR_from (B:=F135_1_B p x) (D:=F135_1_D p x) (lo:=1) (hi:=p) 1 n rfl hn (by omega) (by omega) (fun i _=> 1≤i∧∀j:Int,1≤j→j < i→j*x% p≠1) (fun t=>∃k:Int,t= .inr k∧0≤k∧k < p∧Cg p (x*k) 1) (s:=()) ⟨Nat.le_refl _,fun j a b=> by omega⟩ (by
  rintro i _ hi ⟨h0,hI⟩;unfold F135_1_B;have hm:=rng_mul hr (show 0≤(i:Int)∧(i:Int) < p by omega) (show 0≤x∧x < p by omega);rw[F127_eq hr,ob,Int.emod_eq_of_lt (show 0≤x by omega) h2,chk_ok (by omega) (by omega),ob,remI_ok (by omega),ob,tmod_pos hm.1];by_cases h:(i:Int)*x% p=1
  ·right
   rw[if_pos h];exact⟨_,rfl,_,rfl,by omega,by omega,by rw[Int.mul_comm]; exact cg_one hr h⟩
  ·left
   rw[if_neg h];refine⟨(),rfl,by omega,fun j a b=>?_⟩;by_cases e:j=i
   ·subst e; exact h
   ·exact hI j a (by omega)) (by
  rintro _ ⟨h0,hI⟩;exact absurd m3 (hI m m1 (by omega)))
 unfold F135;rw[g1,ob];exact⟨k,rfl,g2,g3,g4⟩
theorem F138_eq{p x:Int}(hp:IsP p)(h1:1≤x)(h2:x < p):∃k,F138 p x=some k∧0≤k∧k < p∧Cg p (x*k) 1:=by
 have hr:=hp.range;obtain⟨m,m1,m2,m3⟩:=inv_ex hp h1 h2;obtain⟨t,g1,g2,g3,g4⟩:=loopW_inv (S:=F138_1_S p x) (fun v=>(m - v).toNat) (fun v=> 1≤v∧v≤m) (fun t=> 0≤t∧t < p∧Cg p (x*t) 1) (s:=1) ⟨by decide,m1⟩ (by
  rintro v ⟨v1,v2⟩;unfold F138_1_S;have hm:=rng_mul hr (show 0≤v∧v < p by omega) (show 0≤x∧x < p by omega);rw[chk_ok (by omega) (by omega),ob,remI_ok (by omega),ob,tmod_pos hm.1];by_cases h:v*x% p=1
  ·right
   rw[if_pos h];exact⟨_,rfl,by omega,by omega,by rw[Int.mul_comm]; exact cg_one hr h⟩
  ·left
   have hne:v≠m:=fun e=> by rw[e]at h; exact h m3
   rw[if_neg h,chk_ok (by omega) (by omega),ob];exact⟨_,rfl,⟨by omega,by omega⟩,by omega⟩)
 unfold F138;rw[g1,ob];exact⟨t,rfl,g2,g3,g4⟩
theorem F139_eq{p k:Int}{w:Nat}(hp:2≤p∧p≤7)(hk:0≤k∧k < p){r o:List Int}(hr:VecOK p w r)(ho:VecOK p w o)(hw:w≤1048576):F139 r o p k=some (subv p r o k):=by
 have hl:=hr.len;have hol:=ho.len;unfold F139;rw[show(o.length:Int)=(r.length:Int) by omega,idx_loop (l:=r) (B:=F139_1_B o p k) (D:=F139_1_D) (fun i x=>(x - k*nth o i)% p) (by omega) (fun i hi s hs hk'=>?_) (fun i s=> rfl)]
 ·congr 1
  have hsl:(subv p r o k).length=w:=by simp[subv,hl,hol]
  apply List.ext_getElem (by simp[hl,hsl]);intro i h1 h2;have hi:i < w:=by omega
  have:=nth_sub (p:=p) (k:=k) hl hol hi;rw[nth_lt h2,nth_lt (show i < r.length by omega)]at this;rw[this]; simp
 ·have h1:s[i]? =r[i]?:=by rw[hk' i,if_neg (Nat.lt_irrefl _)]
  have h2:s[i]'(by omega)=r[i]:=by
   have:=h1;rw[List.getElem?_eq_getElem (by omega),List.getElem?_eq_getElem hi]at this;exact Option.some.inj this
  have a1:=hr.rng i (by omega);rw[nth_lt hi]at a1;have a2:=ho.rng i (by omega);have hm:0≤(p - k)*nth o i∧(p - k)*nth o i≤49:=by
   refine⟨Int.mul_nonneg (by omega) a2.1,?_⟩;have:=Int.mul_le_mul (show p - k≤7 by omega) (show nth o i≤7 by omega) a2.1 (by decide);omega
  unfold F139_1_B;rw[nth_get (by omega),ob,getI_nat (show i < s.length by omega),ob,h2,chk_ok (by omega) (by omega),ob,chk_ok (by omega) (by omega),ob,chk_ok (by omega) (by omega),ob,remI_ok (by omega),ob,setI_nat (by omega),ob,tmod_pos (by omega)]
  congr 3
  exact Cg.emod ⟨nth o i,by grind⟩
theorem F134_eq{p:Int}{w:Nat}(hp:2≤p∧p≤7){R:List (List Int)}(hR:Red p w R){v:List Int}(hv:VecOK p w v)(hw:w≤1048576)(hn:R.length≤1048576):F134 p R v=some (rest p R v):=by
 have hp0:0 < p:=by omega
 unfold F134;rw[F94_eq (by rw[hv.len]; exact hw),ob];have key:∀i,i≤R.length→VecOK p w (rest p (R.take i) v):=fun i _=> rest_ok hp0 (fun r hr=> hR.ok r (List.mem_of_mem_take hr)) hv;obtain⟨t,g1,g2⟩:=forR_inv (B:=F134_1_B p R) (D:=F134_1_D p R) R.length rfl (by omega) (fun i s=> s=rest p (R.take i) v) (fun t=> t=rest p R v) (s:=v) rfl (by
  rintro i s hi rfl;left;refine⟨_,?_,rfl⟩;have hk:=key i (by omega);have hm:=List.getElem_mem hi;have hok:=hR.ok _ hm;have hone:=hR.one _ hm;unfold F134_1_B;rw[getI_nat hi,ob,F81_ld (by rw[hok.len]; exact hw),if_pos (by rw[hok.len]; exact hone.1),ob,nth_get (by rw[hk.len]; exact hone.1),ob,F136_eq hp (hk.rng _ hone.1) hk hok hw,ob]
  congr 2
  rw[←List.take_append_getElem hi];unfold rest;rw[List.foldl_append]; rfl) (by
  rintro s rfl;exact⟨_,rfl,by rw[List.take_length]⟩)
 rw[g1,ob,g2]
theorem ins_cons{p:Int}{own:List Int}{a:Nat}{o:List Int}{out:List (List Int)}:ins p own a (o::out)=if a < ld o then own::insF p own a o::out.map (insF p own a)else insF p own a o::ins p own a out:=rfl
theorem F131_3_eq{p:Int}{w a:Nat}(hp:2≤p∧p≤7){out:List (List Int)}{own:List Int}(hR:Red p w out)(n:New p w out own a)(hw:w≤1048576)(hn:out.length≤1000000):
  ∃nx put,forR 0 (out.length:Int) (F131_3_B p out own a) F131_3_D ([],false)=some (nx,put)∧(if put=true then nx else nx++[own])=ins p own a out∧nx.length≤2000000:=by
 obtain⟨t,g1,g2,g3⟩:=forR_inv (B:=F131_3_B p out own a) (D:=F131_3_D) out.length rfl (by omega) (fun i s=> s.1.length≤2*i∧(s.2=true→s.1++(out.drop i).map (insF p own a)=ins p own a out)∧(s.2=false→s.1++ins p own a (out.drop i)=ins p own a out))
  (fun t=>(if t.2=true then t.1 else t.1++[own])=ins p own a out∧t.1.length≤2000000) (s:=([],false)) ⟨by simp,by simp,by simp⟩ (by
  rintro i ⟨nx,put⟩ hi ⟨p1,p2,p3⟩;simp only at p1 p2 p3;left;have hm:=List.getElem_mem hi;have hok:=hR.ok _ hm;have hone:=hR.one _ hm;have hr:=hok.rng a n.lt;have hq:F136 p out[i] own (nth out[i] a)=some (insF p own a out[i]):=F136_eq hp hr hok n.ok hw;rw[List.drop_eq_getElem_cons hi]at p2 p3;unfold F131_3_B F131_3_C;simp only;cases put with
  |true=>
   have e:=p2 rfl;rw[if_pos rfl,ob,if_neg Bool.false_ne_true,ob,getI_nat hi,ob,nth_get (by rw[hok.len]; exact n.lt),ob,hq,ob,app_ok (by simp; omega) (by simp; omega),ob];exact⟨_,rfl,by simp; omega,fun _=> by rw[←e]; simp only[List.map_cons,List.append_assoc,List.cons_append,List.nil_append],fun h=> by cases h⟩
  |false=>
   have e:=p3 rfl;rw[if_neg Bool.false_ne_true,getI_nat hi,ob,F81_ld (by rw[hok.len]; exact hw),if_pos (by rw[hok.len]; exact hone.1),ob,ob];by_cases h:a < ld out[i]
   ·have hd:decide ((a:Int) < (ld out[i]:Int))=true:=by simpa using h
    rw[ins_cons,if_pos h]at e;rw[hd,if_pos rfl,app_ok (by simp; omega) (by simp; omega),ob,ob,ob,nth_get (by rw[hok.len]; exact n.lt),ob,hq,ob,app_ok (by simp; omega) (by simp; omega),ob];exact⟨_,rfl,by simp; omega,fun _=> by rw[←e]; simp only[List.map_cons,List.append_assoc,List.cons_append,List.nil_append],fun h=> by cases h⟩
   ·have hd:decide ((a:Int) < (ld out[i]:Int))=false:=by simpa using h
    rw[ins_cons,if_neg h]at e;rw[hd,if_neg Bool.false_ne_true,ob,ob,nth_get (by rw[hok.len]; exact n.lt),ob,hq,ob,app_ok (by simp; omega) (by simp; omega),ob];exact⟨_,rfl,by simp; omega,(fun h=> by cases h),fun _=> by rw[←e]; simp only[List.append_assoc,List.cons_append,List.nil_append]⟩) (by
  rintro⟨nx,put⟩ ⟨p1,p2,p3⟩;simp only at p1 p2 p3;refine⟨_,rfl,?_,by simp only; omega⟩;rw[List.drop_length]at p2 p3;cases put with
  |true=> simpa using p2 rfl
  |false=> simpa[ins]using p3 rfl)
 exact⟨t.1,t.2,g1,g2,g3⟩
theorem F131_ech{p:Int}{w:Nat}(hp:IsP p){rows:List (List Int)}(hr:Rows p w rows)(hw:w≤1048576)(hn:rows.length≤1000000):∃out,F131 p rows=some out∧EchOf p w rows out:=by
 have hpr:=hp.range;have hp1:1 < p:=by omega
 obtain⟨t,g1,g2,g3⟩:=forR_inv (B:=F131_1_B p rows) (D:=F131_1_D) rows.length rfl (by omega) (fun i s=> EchOf p w (rows.take i) s∧s.length≤i) (fun t=> EchOf p w rows t∧t.length≤rows.length) (s:=[]) ⟨.nil p w,Nat.le_refl _⟩ (by
  rintro i out hi ⟨p1,p2⟩;left;have hrow:=hr _ (List.getElem_mem hi);have hrt:Rows p w (rows.take i):=fun r h=> hr r (List.mem_of_mem_take h);have hrest:=rest_ok (show 0 < p by omega) p1.red.ok hrow;have hl:¬(ld (rest p out rows[i]) < w)∨ld (rest p out rows[i]) < w:=by omega
  unfold F131_1_B;rw[getI_nat hi,ob,F134_eq hpr p1.red hrow hw (by omega),ob,F81_ld (by rw[hrest.len]; exact hw),ob,hrest.len];rcases hl with hl|hl
  ·rw[if_neg hl,if_pos (by decide)]
   refine⟨out,rfl,?_,by omega⟩;rw[←List.take_append_getElem hi];exact p1.skip hp1 hrt hrow fun j hj=> ld_zero (by omega)
  ·rw[if_pos hl,if_neg (by omega)]
   have hne:=ld_ne (r:=rest p out rows[i]) (by rw[hrest.len]; exact hl);have hrg:=hrest.rng _ hl;obtain⟨k,k1,k2,k3,k4⟩:=F135_eq hp (x:=nth (rest p out rows[i]) (ld (rest p out rows[i]))) (by omega) hrg.2;have n:=p1.new hp1 hrow hl (fun j hj=> ld_zero hj) k4;obtain⟨nx,put,q1,q2,q3⟩:=F131_3_eq hpr p1.red n hw (by omega);have hlen:((rest p out rows[i]).length:Int)=(w:Int):=by rw[hrest.len]
   have hsc:=scl_loop hpr ⟨k2,k3⟩ hrest hw (B:=F131_2_B p k) (D:=F131_2_D) (fun i row=> rfl) (fun i s=> rfl);have hput:=p1.put hp1 hrt hrow hl (fun j hj=> ld_zero hj) k4;rw[List.take_append_getElem hi]at hput;rw[nth_get (by rw[hrest.len]; exact hl),ob,k1,ob,←hlen,hsc,ob,q1,ob];simp only;cases put with
   |true=>
    rw[if_pos rfl]at q2 ⊢;rw[q2];exact⟨_,rfl,hput,by rw[ins_len]; omega⟩
   |false=>
    rw[if_neg Bool.false_ne_true]at q2 ⊢;rw[app_ok (by simp; omega) (by simp; omega),ob,q2];exact⟨_,rfl,hput,by rw[ins_len]; omega⟩) (by
  rintro out ⟨p1,p2⟩;rw[List.take_length]at p1;exact⟨_,rfl,p1,p2⟩)
 exact⟨t,g1,g2⟩
theorem F128_first{l:List (List Int)}{f:List Int→Option Bool}(P:List Int→Bool)(hl:l.length≤1048576)(hf:∀x∈l,f x=some (P x)):∃i:Int,F128 l f=some i∧((i= -1∧∀x∈l,P x=false)∨∃m:Nat,i=m∧m < l.length∧P (rowAt l m)=true):=by
 unfold F128;obtain⟨t,h1,h2⟩:=forR_inv (B:=F128_1_B l f) (D:=F128_1_D l f) (hi:=l.length) l.length rfl (by omega) (fun i _=>∀k (hk:k < i) (h2:k < l.length),P l[k]=false) (fun t=>(t= .inl ()∧∀x∈l,P x=false)∨∃m:Nat,t= .inr (m:Int)∧m < l.length∧P (rowAt l m)=true) (s:=()) (fun k hk=> by omega) (by
  intro i _ hi hI;unfold F128_1_B;rw[getI_nat hi,ob,hf _ (List.getElem_mem hi),ob];cases hp:P l[i]with
  |true=> right; exact⟨_,rfl,.inr ⟨i,rfl,hi,by rw[rowAt_lt hi]; exact hp⟩⟩
  |false=>
   left;refine⟨(),rfl,fun k hk h2=>?_⟩;by_cases e:k=i
   ·subst e; exact hp
   ·exact hI k (by omega) h2) (by
  intro _ hI;refine⟨.inl (),rfl,.inl ⟨rfl,fun x hx=>?_⟩⟩;obtain⟨k,hk,rfl⟩:=List.getElem_of_mem hx;exact hI k hk hk)
 rw[h1,ob];rcases h2 with⟨rfl,h2⟩|⟨m,rfl,h2⟩
 ·exact⟨_,rfl,.inl ⟨rfl,h2⟩⟩
 ·exact⟨_,rfl,.inr ⟨m,rfl,h2⟩⟩
theorem gstep_loop{p:Int}{w c d:Nat}(hp:2≤p∧p≤7){l:List (List Int)}{row:List Int}(hl:Rows p w l)(hd:d < l.length)(hrow:rowAt l d=row)(hc:c < w)(hw:w≤1048576)(hn:l.length≤1000000):
  forR 0 (l.length:Int) (F133_4_B p c d) F133_4_D l=some (gstep p c d row l):=by
 have hdr:=hl _ (row_mem hd);rw[hrow]at hdr;rw[idx_loop (l:=l) (B:=F133_4_B p c d) (D:=F133_4_D) (fun i r=> if i=d then r else subv p r row (nth r c)) (by omega) (fun i hi s hs hk=>?_) (fun i s=> rfl)]
 ·unfold gstep
  congr 1
  have:l.set d row=l:=by
   rw[←hrow,rowAt_lt hd]; exact List.set_getElem_self hd
  rw[this]
 ·have h1:s[i]'(by omega)=l[i]:=by
   have:=hk i;rw[if_neg (Nat.lt_irrefl _),List.getElem?_eq_getElem (by omega),List.getElem?_eq_getElem hi]at this;exact Option.some.inj this
  have h2:s[d]'(by omega)=row:=by
   have:=hk d;rw[List.getElem?_eq_getElem (by omega),List.getElem?_eq_getElem hd]at this;rw[←hrow,rowAt_lt hd];split at this
   ·simpa using this
   ·exact Option.some.inj this
  unfold F133_4_B;by_cases e:i=d
  ·subst e
   rw[if_pos rfl,if_pos rfl,←h1,List.set_getElem_self]
  ·have hr:=hl _ (List.getElem_mem hi)
   have hrc:=hr.rng c hc;rw[if_neg (by omega),if_neg e,getI_nat (show i < s.length by omega),ob,getI_nat (show d < s.length by omega),ob,h1,h2,nth_get (by rw[hr.len]; exact hc),ob,F139_eq hp hrc hr hdr hw,ob,setI_nat (by omega),ob]
theorem F133_ech{p:Int}{w:Nat}(hp:IsP p){rows:List (List Int)}(hr:Rows p w rows)(hw:w≤1048576)(hn:rows.length≤1000000):∃out,F133 p rows=some out∧EchOf p w rows out:=by
 have hpr:=hp.range;have hp1:1 < p:=by omega
 unfold F133;rw[cpy_loop (l:=rows) (B:=F133_1_B rows) (D:=F133_1_D) (by omega) (fun i hi s hs=> by
  unfold F133_1_B;have:=hr _ (List.getElem_mem hi);rw[getI_nat hi,ob,F96_eq (by rw[this.len]; exact hw),ob,app_ok (by simp; omega) (by simp; omega),ob]) (fun i s=> rfl),ob]
 by_cases h0:(rows.length:Int)=0
 ·rw[if_pos h0]
  have:rows=[]:=List.eq_nil_of_length_eq_zero (by omega);subst this;exact⟨_,rfl,.nil p w⟩
 rw[if_neg h0];have hpos:0 < rows.length:=by omega
 have e0:=getI_nat hpos;simp only[Int.natCast_zero]at e0;have hw0:=(hr _ (List.getElem_mem hpos)).len;rw[show(0:Int)=((0:Nat):Int) from rfl,getI_nat hpos,ob];obtain⟨t,g1,g2,g3,g4⟩:=forR_inv (B:=F133_2_B p) (D:=F133_2_D) (hi:=(rows[0].length:Int)) w (by rw[hw0]) (by omega) (fun c s=>∃d:Nat,s.2=d∧d < s.1.length∧s.1.length=rows.length∧GInv p w rows c s.1 d)
  (fun t=> EchOf p w rows (t.1.take t.2.toNat)∧0≤t.2∧t.2≤t.1.length) (s:=(rows,0)) ⟨0,rfl,hpos,rfl,.start hr⟩ (by
  rintro c ⟨l,dd⟩ hc ⟨d,p1,p2,p3,g⟩;simp only at p1 p2 p3 g;subst p1;have hrl:∀x∈l.drop d,(fun r=> F137 r (c:Int)) x=some (!decide (nth x c=0)):=fun x hx=> by
   have hx':=g.ok x (List.mem_of_mem_drop hx);show F137 x c=_;unfold F137;rw[nth_get (by rw[hx'.len]; exact hc),ob]
  obtain⟨at_,a1,a2⟩:=F128_first (fun x=> !decide (nth x c=0)) (l:=l.drop d) (by simp; omega) hrl;unfold F133_2_B;simp only;rw[if_pos ⟨by omega,by omega⟩,Int.toNat_natCast,a1,ob];rcases a2 with⟨rfl,a2⟩|⟨m,rfl,a2,a3⟩
  ·rw[if_pos (by decide)]
   left;refine⟨_,rfl,d,rfl,p2,p3,g.skip hc fun i h1 h2=>?_⟩;have hx:rowAt l i∈l.drop d:=by
    rw[rowAt_lt h2,List.mem_iff_getElem];exact⟨i - d,by simp; omega,by simp[show d+(i - d)=i by omega]⟩
   simpa using a2 _ hx
  ·have hml:m < l.length - d:=by simpa using a2
   have hj:d+m < l.length:=by omega
   have hrm:rowAt (l.drop d) m=rowAt l (d+m):=by rw[rowAt_lt a2,rowAt_lt hj,List.getElem_drop]
   rw[hrm]at a3;have hne:nth (rowAt l (d+m)) c≠0:=by simpa using a3
   have hrj:=g.ok _ (row_mem hj);have hrg:=hrj.rng c hc;obtain⟨k,k1,k2,k3,k4⟩:=F138_eq hp (x:=nth (rowAt l (d+m)) c) (by omega) hrg.2
   -- the swapped list
   have h2l:((l.set d (rowAt l (d+m))).set (d+m) (rowAt l d)).length=l.length:=by simp
   have h2:∀i,i < l.length→rowAt ((l.set d (rowAt l (d+m))).set (d+m) (rowAt l d)) i=rowAt l (if i=d+m then d else if i=d then d+m else i):=fun i hi=> by
    rw[rowAt_lt (by simp; exact hi)];by_cases e:i=d+m
    ·subst e; rw[if_pos rfl]; simp
    ·rw[if_neg e,List.getElem_set_ne (Ne.symm e)]
     by_cases e2:i=d
     ·subst e2; rw[if_pos rfl]; simp
     ·rw[if_neg e2,List.getElem_set_ne (Ne.symm e2),rowAt_lt hi]
   have gp:=g.put hp1 hc (show d≤d+m by omega) hj k4 h2l h2;have hrd:rowAt ((l.set d (rowAt l (d+m))).set (d+m) (rowAt l d)) d=rowAt l (d+m):=by
    rw[h2 d p2];by_cases e:d=d+m
    ·rw[if_pos e,←e]
    ·rw[if_neg e,if_pos rfl]
   generalize hl2:(l.set d (rowAt l (d+m))).set (d+m) (rowAt l d)=l2 at*;have hsc:=scl_loop hpr ⟨k2,k3⟩ hrj hw (B:=F133_3_B p k) (D:=F133_3_D) (fun i row=> rfl) (fun i s=> rfl);have ok2:Rows p w (l2.set d (scl p (rowAt l (d+m)) k)):=fun r hr'=> by
    rcases List.mem_or_eq_of_mem_set hr' with q|q
    ·obtain⟨i,hi,rfl⟩:=mem_row.1 q
     rw[h2 i (by omega)];refine g.ok _ (row_mem ?_);split
     ·exact p2
     ·split
      ·exact hj
      ·omega
    ·rw[q]; exact scl_ok (by omega) hrj k
   have hs3:(l2.set d (scl p (rowAt l (d+m)) k)).length=l.length:=by simp[h2l]
   have hr3:rowAt (l2.set d (scl p (rowAt l (d+m)) k)) d=scl p (rowAt l (d+m)) k:=by rw[rowAt_lt (by omega)]; simp
   have hgl:=gstep_loop hpr ok2 (show d < _ by omega) hr3 hc hw (by omega);have hgs:gstep p c d (scl p (rowAt l (d+m)) k) (l2.set d (scl p (rowAt l (d+m)) k))=gstep p c d (scl p (rowAt l (d+m)) k) l2:=by unfold gstep; rw[List.set_set]
   rw[hgs]at hgl;have hlen4:(gstep p c d (scl p (rowAt l (d+m)) k) l2).length=l.length:=by rw[gstep_len]; exact h2l
   have e1:getI l ((d+m:Nat):Int)=some (rowAt l (d+m)):=by rw[getI_nat hj,rowAt_lt hj]
   have e2:getI l (d:Int)=some (rowAt l d):=by rw[getI_nat p2,rowAt_lt p2]
   have e3:getI l2 (d:Int)=some (rowAt l (d+m)):=by rw[getI_nat (by omega),←rowAt_lt (by omega),hrd]
   rw[if_neg (by omega),chk_ok (by omega) (by omega),ob,show(d:Int)+(m:Int)=((d+m:Nat):Int) by omega,e1,ob,e2,ob,setI_nat p2,ob,setI_nat (by simp; omega),ob,hl2,e3,ob,
    nth_get (by rw[hrj.len]; exact hc),ob,k1,ob,hsc,ob,setI_nat (by omega),ob,hgl,ob,chk_ok (by omega) (by omega),ob]
   by_cases hd1:(d:Int)+1=((gstep p c d (scl p (rowAt l (d+m)) k) l2).length:Int)
   ·right
    rw[if_pos hd1];refine⟨_,rfl,?_,by simp only; omega,by simp only; omega⟩;simp only;rw[show((d:Int)+1).toNat=d+1 by omega];exact gp.done hp1 (.inr (by omega))
   ·left
    rw[if_neg hd1];refine⟨_,rfl,d+1,by simp only; omega,by simp only; have:=gp.dn; omega,by simp only; omega,gp⟩) (by
  rintro⟨l,dd⟩ ⟨d,p1,p2,p3,g⟩;simp only at p1 p2 p3 g;subst p1;refine⟨_,rfl,?_,by simp only; omega,by simp only; omega⟩;simp only;rw[Int.toNat_natCast];exact g.done hp1 (.inl rfl))
 rw[show((0:Nat):Int)=(0:Int) from rfl,g1,ob,if_pos ⟨g3,g4⟩];exact⟨_,rfl,g2⟩
theorem reduce_same{p:Int}{w:Nat}(hp:IsP p){rows:List (List Int)}(hr:Rows p w rows)(hw:w≤1048576)(hn:rows.length≤1000000):∃out,F131 p rows=some out∧F133 p rows=some out∧EchOf p w rows out:=by
 obtain⟨a,a1,a2⟩:=F131_ech hp hr hw hn;obtain⟨b,b1,b2⟩:=F133_ech hp hr hw hn;have:=a2.same (by have:=hp.range; omega) b2;subst this;exact⟨a,a1,b1,a2⟩
theorem F133_self{p:Int}{w:Nat}(hp:IsP p){E:List (List Int)}(h:Red p w E)(hw:w≤1048576)(hn:E.length≤1000000):F133 p E=some E:=by
 obtain⟨X, -,x2,x3⟩:=reduce_same hp h.ok hw hn;rw[x2,x3.same (by have:=hp.range; omega) (EchOf.self h)]
theorem red_len{p:Int}{w:Nat}{E:List (List Int)}(h:Red p w E):E.length≤w:=by
 have h1:=h.leads;have key:∀ (l:List Nat) (b:Nat),l.Pairwise (·< ·)→(∀x∈l,b≤x∧x < w)→l.length+b≤max w b:=by
  intro l;induction l with
  |nil=> intro b _ _; simp; omega
  |cons a l ih=>
   intro b hp hx;obtain⟨p1,p2⟩:=List.pairwise_cons.1 hp;have ha:=hx a List.mem_cons_self;have:=ih (a+1) p2 fun x hx'=>⟨p1 x hx',(hx x (List.mem_cons_of_mem _ hx')).2⟩;simp only[List.length_cons];omega
 have:=key (E.map ld) 0 h1 fun x hx=> by
  obtain⟨r,hr,rfl⟩:=List.mem_map.1 hx;exact⟨Nat.zero_le _,(h.one r hr).1⟩
 simpa using this
theorem set_app_right{r s:List Int}{i:Nat}(x:Int):(r++s).set (r.length+i) x=r++s.set i x:=by
 rw[List.set_append_right _ _ (by omega)]; simp
theorem F125_1_eq{p:Int}{w:Nat}{rows:List (List Int)}(hr:Rows p w rows){x2:List Int}(hx:x2.length=w)(hw:w≤1000)(hn:rows.length≤1000):
  forR 0 (rows.length:Int) (F125_1_B p rows x2) (F125_1_D p rows x2) []=some (longs rows.length rows):=by
 have hl:=longs_len rows.length rows;obtain⟨t,g1,g2⟩:=forR_inv (B:=F125_1_B p rows x2) (D:=F125_1_D p rows x2) rows.length rfl (by omega) (fun i s=> s=(longs rows.length rows).take i) (fun t=> t=longs rows.length rows) (s:=[]) (by simp) (by
  rintro i s hi rfl;left;have hri:=hr _ (List.getElem_mem hi);refine⟨(longs rows.length rows).take (i+1),?_,rfl⟩;unfold F125_1_B appZ;have hz:List.replicate ((rows.length:Int)).toNat (0:Int)=zv rows.length:=by simp[zv]
  have hzl:(zv rows.length).length=rows.length:=by simp[zv]
  have e:((x2.length:Int)+(i:Int))=((rows[i].length+i:Nat):Int):=by rw[hx,hri.len]; omega
  rw[getI_nat hi,ob,F96_eq (by rw[hri.len]; omega),ob,if_pos ⟨by omega,by omega,by omega⟩,hz,app_ok (by rw[hri.len,hzl]; omega) (by rw[hri.len,hzl]; omega),ob,chk_ok (by rw[hx]; omega) (by rw[hx]; omega),ob,e,getI_nat (by rw[List.length_append,hzl]; omega),ob,
   setI_nat (by rw[List.length_append,hzl]; omega),ob,app_ok (by simp; omega) (by simp; omega),ob,set_app_right]
  congr 2
  rw[←List.take_append_getElem (show i < (longs rows.length rows).length by omega),longs_at,rowAt_lt hi];rfl) (by
  rintro s rfl;exact⟨_,rfl,by rw[List.take_of_length_le (by omega)]⟩)
 rw[g1,g2]
theorem F122_1_eq{p:Int}{w:Nat}{rows:List (List Int)}(hr:Rows p w rows)(hw:w≤1000)(hn:rows.length≤1000):
  forR 0 (rows.length:Int) (F122_1_B p rows.length rows) (F122_1_D p rows.length rows) ([],0)=some (longs rows.length rows,if rows.length=0 then 0 else(w:Int)):=by
 have hl:=longs_len rows.length rows;obtain⟨t,g1,g2⟩:=forR_inv (B:=F122_1_B p rows.length rows) (D:=F122_1_D p rows.length rows) rows.length rfl (by omega) (fun i s=> s=((longs rows.length rows).take i,if i=0 then 0 else(w:Int))) (fun t=> t=(longs rows.length rows,if rows.length=0 then 0 else(w:Int))) (s:=([],0)) (by simp) (by
  rintro i s hi rfl;left;have hri:=hr _ (List.getElem_mem hi);refine⟨((longs rows.length rows).take (i+1),if i+1=0 then 0 else(w:Int)),?_,rfl⟩;unfold F122_1_B;simp only;have hzl:(zv rows.length).length=rows.length:=by simp[zv]
  rw[mkL_ok rows.length rfl (by omega) (by omega),ob]
  change (getI (zv rows.length) (i:Int)).bind _=_
  rw[getI_nat (by omega),ob]
  change (setI (zv rows.length) (i:Int) 1).bind _=_
  rw[setI_nat (by omega),ob,getI_nat hi,ob,F94_eq (by rw[hri.len]; omega),ob,app_ok (by simp[zv,hri.len]; omega) (by simp[zv,hri.len]; omega),ob,app_ok (by simp; omega) (by simp; omega),ob,if_neg (by omega),hri.len]
  congr 3
  rw[←List.take_append_getElem (show i < (longs rows.length rows).length by omega),longs_at,rowAt_lt hi];rfl) (by
  rintro s rfl;exact⟨_,rfl,by rw[List.take_of_length_le (by omega)]⟩)
 rw[g1,g2]
theorem tails_take{w i:Nat}{E:List (List Int)}(hi:i < E.length):tails w (E.take (i+1))=if w≤ld E[i]then tails w (E.take i)++[E[i].drop w]else tails w (E.take i):=by
 unfold tails;rw[←List.take_append_getElem hi,List.filter_append,List.map_append];by_cases h:w≤ld E[i]
 ·rw[if_pos h]; simp[h]
 ·rw[if_neg h]; simp[h]
theorem tails_len{w:Nat}{E:List (List Int)}:(tails w E).length≤E.length:=by
 unfold tails;rw[List.length_map]; exact List.length_filter_le _ _
theorem F122_2_eq{p:Int}{w n:Nat}{E:List (List Int)}(h:Red p (w+n) E)(hw:w+n≤10000):
  forR 0 (E.length:Int) (F122_2_B w E) (F122_2_D w E) []=some (tails w E):=by
 have hE:=red_len h;obtain⟨t,g1,g2⟩:=forR_inv (B:=F122_2_B w E) (D:=F122_2_D w E) E.length rfl (by omega) (fun i s=> s=tails w (E.take i)) (fun t=> t=tails w E) (s:=[]) (by simp[tails]) (by
  rintro i s hi rfl;left;have hk:=h.ok _ (List.getElem_mem hi);have ho:=h.one _ (List.getElem_mem hi);have htl:(tails w (E.take i)).length≤10000:=by have:=tails_len (w:=w) (E:=E.take i); simp at this; omega
  refine⟨tails w (E.take (i+1)),?_,rfl⟩;rw[tails_take hi];unfold F122_2_B;rw[getI_nat hi,ob,F81_ld (by rw[hk.len]; omega),if_pos (by rw[hk.len]; exact ho.1),ob];by_cases q:w≤ld E[i]
  ·rw[if_pos (by omega),if_pos q]
   unfold slI;rw[if_pos ⟨by omega,by rw[hk.len]; omega,Int.le_refl _⟩,ob,Int.toNat_natCast,Int.toNat_natCast,List.take_length,F94_eq (by simp[hk.len]; omega),ob,app_ok (by simp; omega) (by simp; omega),ob]
  ·rw[if_neg (by omega),if_neg q]) (by
  rintro s rfl;exact⟨_,rfl,by rw[List.take_length]⟩)
 rw[g1,g2]
theorem isZero_take{r:List Int}{w:Nat}(h:w≤r.length):(∀x∈r.take w,x=0)↔w≤ld r:=by
 constructor
 ·intro hx
  refine Nat.le_of_not_lt fun q=>?_;have hl:ld r < r.length:=by omega
  refine ld_ne hl (by rw[nth_lt hl]; exact hx _ (List.mem_take_iff_getElem.2 ⟨ld r,by omega,rfl⟩))
 ·intro q x hx
  obtain⟨i,hi,rfl⟩:=List.mem_take_iff_getElem.1 hx;have:=ld_zero (r:=r) (j:=i) (by omega)
  rwa[nth_lt (by omega)]at this
theorem F125_2_eq{p:Int}{w n:Nat}{E:List (List Int)}(h:Red p (w+n) E)(hw:w+n≤10000){x2:List Int}(hx:x2.length=w):
  forR 0 (E.length:Int) (F125_2_B p x2 E) (F125_2_D p x2 E) []=some (tails w E):=by
 have hE:=red_len h;obtain⟨t,g1,g2⟩:=forR_inv (B:=F125_2_B p x2 E) (D:=F125_2_D p x2 E) E.length rfl (by omega) (fun i s=> s=tails w (E.take i)) (fun t=> t=tails w E) (s:=[]) (by simp[tails]) (by
  rintro i s hi rfl;left;have hk:=h.ok _ (List.getElem_mem hi);have ho:=h.one _ (List.getElem_mem hi);have htl:(tails w (E.take i)).length≤10000:=by have:=tails_len (w:=w) (E:=E.take i); simp at this; omega
  refine⟨tails w (E.take (i+1)),?_,rfl⟩;rw[tails_take hi];unfold F125_2_B slI;rw[getI_nat hi,ob,hx,if_pos ⟨by omega,by omega,by rw[hk.len]; omega⟩,ob,Int.toNat_natCast,Int.toNat_zero,List.drop_zero];rcases((F92_tells (l:=E[i].take w) (by simp; omega)).iff (isZero_take (by rw[hk.len]; omega))).case with⟨e,q⟩|⟨e,q⟩
  ·rw[e,ob,if_pos rfl,if_pos q,if_pos ⟨by omega,by rw[hk.len]; omega,Int.le_refl _⟩,ob,Int.toNat_natCast,List.take_length,app_ok (by simp; omega) (by simp; omega),ob]
  ·rw[e,ob,if_neg Bool.false_ne_true,if_neg q]) (by
  rintro s rfl;exact⟨_,rfl,by rw[List.take_length]⟩)
 rw[g1,g2]
theorem kernel_same{p:Int}{w:Nat}(hp:IsP p){rows:List (List Int)}(hr:Rows p w rows)(hw:w≤1000)(hn:rows.length≤1000):∃K,F122 p rows.length rows=some K∧F125 p rows=some K∧Red p rows.length K:=by
 have hp1:1 < p:=by have:=hp.range; omega
 unfold F122 F125;rw[F122_1_eq hr hw hn,ob];simp only;by_cases h0:rows.length=0
 ·have:rows=[]:=List.eq_nil_of_length_eq_zero h0
  subst this;have e:(longs ([]:List (List Int)).length [])=[]:=by simp[longs]
  obtain⟨E,e1, -,e3⟩:=reduce_same hp (rows:=[]) (w:=0+0) (fun r h=>(nomatch h)) (by omega) (by simp);have hE:E=[]:=List.eq_nil_of_length_eq_zero (by have:=red_len e3.red; omega);subst hE;rw[e,e1,ob,if_pos (by simp),if_pos (by simp)];have:=F122_2_eq (w:=0) (n:=0) e3.red (by omega);have h2:forR 0 ((([]:List (List Int)).length:Nat):Int) (F122_2_B 0 []) (F122_2_D 0 []) []=some []:=this;rw[h2];exact⟨[],rfl,rfl,⟨fun r h=>(nomatch h),fun r h=>(nomatch h),.nil⟩⟩
 ·rw[if_neg h0,if_neg (by omega)]
  obtain⟨E,e1,e2,e3⟩:=reduce_same hp (longs_ok hp1 hr) (by omega) (by rw[longs_len]; omega);have hpos:0 < rows.length:=by omega
  have hx0:=(hr _ (List.getElem_mem hpos)).len;have ht:=tails_red e3.red;rw[show(0:Int)=((0:Nat):Int) from rfl,getI_nat hpos,ob,show((0:Nat):Int)=(0:Int) from rfl,e1,ob,F122_2_eq e3.red (by omega),ob,F125_1_eq hr hx0 hw hn,ob,e2,ob,F125_2_eq e3.red (by omega) hx0,ob,F133_self hp ht (by omega) (by have:=red_len ht; omega),ob];exact⟨_,rfl,rfl,ht⟩
theorem RowOK.vec{p w:Int}{row:List Int}(h:RowOK p w row):VecOK p w.toNat row:=by
 have h1:=h.1;refine⟨by omega,fun j hj=>?_⟩;have hj':j < row.length:=by omega
 rw[nth_lt hj'];have:=h.2 _ (List.getElem_mem hj');omega
theorem ValidC.dim{x:GComplex}(h:ValidC x){n:Nat}(hn:n < x.Dims.length):0≤x.Dims.getD n 0∧x.Dims.getD n 0≤8:=h.dims _ (getD_mem hn 0)
theorem F99_at{x:GComplex}(hs:x.Dims.length≤1048576){n:Nat}(hn:n < x.Dims.length):F99 x (n:Int)=some (x.Dims.getD n 0):=by
 unfold F99;rw[chk_ok (by omega) (by omega),ob,F54_eq,ob,if_pos (by simp; omega),getI_getD hn 0,ob]
theorem F102_at{x:GComplex}(hs:x.Dims.length≤1048576){n:Nat}(hn:n < x.Dims.length):F102 x (n:Int)=some (x.Dims.getD n 0):=by
 unfold F102;rw[F86_eq hs,ob,F56_eq,ob,if_pos (by simp; omega),getI_getD hn 0,ob]
theorem F124_eq{n:Nat}(hn:n≤1000):F124 (n:Int)=some (units n):=by
 unfold F124;have hl:=units_len n;obtain⟨t,g1,g2⟩:=forR_inv (B:=F124_1_B (n:Int)) (D:=F124_1_D (n:Int)) n rfl (by omega) (fun i s=> s=(units n).take i) (fun t=> t=units n) (s:=[]) (by simp) (by
  rintro i s hi rfl;left;refine⟨(units n).take (i+1),?_,rfl⟩;have hzl:(zv n).length=n:=by simp[zv]
  unfold F124_1_B F132;rw[mkL_ok n rfl (by omega) (by omega),ob]
  change (((getI (zv n) (i:Int)).bind _).bind _=_)
  rw[getI_nat (by omega),ob]
  change (((setI (zv n) (i:Int) 1).bind _).bind _=_)
  rw[setI_nat (by omega),ob,ob,app_ok (by simp; omega) (by simp; omega),ob]
  congr 2
  rw[←List.take_append_getElem (show i < (units n).length by omega)]
  congr 2
  simp[units,unitv]) (by
  rintro s rfl;exact⟨_,rfl,by rw[List.take_of_length_le (by omega)]⟩)
 rw[g1,ob,g2]
theorem kernel_none{p:Int}(hp:IsP p){n:Nat}(hn:n≤1000):F122 p (n:Int) (List.replicate n [])=some (units n):=by
 have hp1:1 < p:=by have:=hp.range; omega
 have hr:Rows p 0 (List.replicate n ([]:List Int)):=fun r hr=> by
  obtain⟨_,rfl⟩:=List.mem_replicate.1 hr;exact⟨rfl,fun j hj=> absurd hj (Nat.not_lt_zero _)⟩
 have hl:(List.replicate n ([]:List Int)).length=n:=by simp
 have e0:=F122_1_eq hr (by omega) (by omega);rw[hl]at e0;have hlong:longs n (List.replicate n ([]:List Int))=units n:=by
  unfold longs units;refine List.map_congr_left fun i hi=>?_;have:i < n:=List.mem_range.1 hi;simp[rowAt,this]
 have hu:=units_red hp1 n;obtain⟨E,e1, -,e3⟩:=reduce_same hp hu.ok (by omega) (by rw[units_len]; omega);have hE:=e3.same hp1 (EchOf.self hu);subst hE;have ht:tails 0 (units n)=units n:=by
  unfold tails;rw[List.filter_eq_self.2 (fun r _=> by simp)]
  conv=> rhs; rw[←List.map_id (units n)]
  exact List.map_congr_left fun r _=> rfl
 have h2:=F122_2_eq (w:=0) (n:=n) (by rw[Nat.zero_add]; exact hu) (by omega);rw[ht]at h2;have h2':forR 0 ((units n).length:Int) (F122_2_B 0 (units n)) (F122_2_D 0 (units n)) []=some (units n):=h2;unfold F122;rw[e0,ob];have hz:(if n=0 then(0:Int)else((0:Nat):Int))=0:=by split <;> rfl
 simp only;rw[hz,hlong,e1,ob,h2',ob]
theorem F76_0{x:GComplex}(hs:x.Dims.length≤1048576)(hl:0 < x.Dims.length){n:Nat}(hn:x.Dims.getD 0 0=n)(hn8:n≤1000):F76 x 0=some (List.replicate n []):=by
 unfold F76;rw[chk_ok (by omega) (by omega),ob,F54_eq,ob,if_neg (by simp)];have h99:F99 x 0=some (n:Int):=by have:=F99_at hs hl; rw[hn]at this; exact this
 obtain⟨t,g1,g2⟩:=loopW_inv (S:=F76_1_S x 0) (fun s=>(n - s.2).toNat) (fun s=> 0≤s.2∧s.2≤n∧s.1=List.replicate s.2.toNat []) (fun t=> t=List.replicate n []) (s:=([],0)) ⟨Int.le_refl _,by omega,rfl⟩ (by
  rintro⟨l,j⟩ ⟨p1,p2,p3⟩;simp only at p1 p2 p3;subst p3;unfold F76_1_S;simp only;rw[h99,ob];by_cases hj:j < (n:Int)
  ·left
   rw[if_pos hj,app_ok (by simp; omega) (by simp; omega),ob,chk_ok (by omega) (by omega),ob];refine⟨_,rfl,⟨by simp only; omega,by simp only; omega,?_⟩,by simp only; omega⟩;simp only;rw[show(j+1).toNat=j.toNat+1 from by omega,List.replicate_succ']
  ·right
   rw[if_neg hj];have:j.toNat=n:=by omega
   rw[this];exact⟨_,rfl,rfl⟩)
 rw[g1,ob,g2]
theorem cycles_same{x:GComplex}(hx:SmallC x)(h:ValidC x){n:Nat}(hn:n < x.Dims.length):∃K,F98 x (n:Int)=some K∧F100 x (n:Int)=some K∧Red x.Prime (x.Dims.getD n 0).toNat K:=by
 have hp1:1 < x.Prime:=by have:=h.p.range; omega
 have hd:=h.dim hn;have hml:=h.ml;have hxd:=hx.d;unfold F98 F100;rw[F99_at hx.d hn,ob];rcases Nat.eq_zero_or_pos n with h0|h0
 ·subst h0
  have hdn:x.Dims.getD 0 0=((x.Dims.getD 0 0).toNat:Int):=by omega
  rw[if_pos (by omega),show((0:Nat):Int)=0 from rfl,F76_0 hx.d hn hdn (by omega),ob,hdn,Int.toNat_natCast,kernel_none h.p (by omega),ob];have h102:=F102_at hx.d hn;rw[hdn]at h102;rw[show(0:Int)=((0:Nat):Int) from rfl,h102,ob,F124_eq (by omega),ob];exact⟨_,rfl,rfl,units_red hp1 _⟩
 ·obtain⟨k,rfl⟩:∃k,n=k+1:=⟨n - 1,by omega⟩
  have hk:k < x.Maps.length:=by omega
  have ht:=h.tab k hk;have hdk:=h.dim (show k < x.Dims.length by omega);have e1:getI x.Maps (k:Int)=some (x.Maps.getD k []):=getI_getD hk [];have hr:Rows x.Prime (x.Dims.getD k 0).toNat (x.Maps.getD k []):=fun r hr=>(ht.2 r hr).vec;have h76:F76 x ((k+1:Nat):Int)=some (x.Maps.getD k []):=by
   unfold F76;rw[chk_ok (by omega) (by omega),ob,F54_eq,ob,if_pos (by simp; omega),chk_ok (by omega) (by omega),ob,show((k+1:Nat):Int) - 1=(k:Int) by omega,e1,ob]
  have hlen:=ht.1;obtain⟨K,k1,k2,k3⟩:=kernel_same h.p hr (by omega) (by omega);rw[h76,ob,←hlen,k1,ob,if_neg (by omega),F86_eq hx.d,ob,if_neg (by omega),chk_ok (by omega) (by omega),ob,show((k+1:Nat):Int) - 1=(k:Int) by omega,e1,ob,k2,ob,Int.toNat_natCast];exact⟨_,rfl,rfl,k3⟩
theorem F115_ld{r:List Int}(hl:r.length≤1048576)(h:ld r < r.length):F115 r (fun x=> F123 x)=some (ld r:Int):=by
 unfold F115;obtain⟨t,g1,g2⟩:=forR_inv (B:=F115_1_B r (fun x=> F123 x)) (D:=F115_1_D r (fun x=> F123 x)) r.length rfl (by omega) (fun i _=> i≤ld r) (fun t=> t= .inr (ld r:Int)) (s:=()) (Nat.zero_le _) (by
  rintro i _ hi hI;unfold F115_1_B F123;rw[nth_get hi,ob,ob];by_cases q:nth r i=0
  ·left
   rw[if_neg (by simp[q])];refine⟨(),rfl,?_⟩;rcases Nat.lt_or_ge i (ld r)with q2|q2
   ·exact q2
   ·have:i=ld r:=by omega
    subst this;exact absurd q (ld_ne hi)
  ·right
   rw[if_pos (by simp[q])];have:ld r=i:=by
    rcases Nat.lt_or_ge i (ld r)with q2|q2
    ·exact absurd (ld_zero q2) q
    ·omega
   exact⟨_,rfl,by rw[this]⟩) (by
  rintro _ hI;omega)
 rw[g1,ob,g2]
theorem F101_eq{p:Int}{w:Nat}{K:List (List Int)}(h:Red p w K)(hw:w≤1000):F101 K=some (K.map fun r=>(ld r:Int)):=by
 unfold F101;have hk:=red_len h;obtain⟨t,g1,g2⟩:=forR_inv (B:=F101_1_B K) (D:=F101_1_D K) K.length rfl (by omega) (fun i s=> s=(K.map fun r=>(ld r:Int)).take i) (fun t=> t=K.map fun r=>(ld r:Int)) (s:=[]) (by simp) (by
  rintro i s hi rfl;left;have hok:=h.ok _ (List.getElem_mem hi);have hone:=h.one _ (List.getElem_mem hi);refine⟨(K.map fun r=>(ld r:Int)).take (i+1),?_,rfl⟩;unfold F101_1_B;rw[getI_nat hi,ob,F115_ld (by rw[hok.len]; omega) (by rw[hok.len]; exact hone.1),ob,app_ok (by simp; omega) (by simp; omega),ob]
  congr 2
  rw[←List.take_append_getElem (show i < (K.map fun r=>(ld r:Int)).length by simpa using hi)];simp) (by
  rintro s rfl;exact⟨_,rfl,by rw[List.take_of_length_le (by simp)]⟩)
 rw[g1,ob,g2]
theorem forR_map{α β:Type}{l:List α}(g:α→β){B:Int→List β→Option (List β⊕List β)}{D:Int→List β→Option (List β)}{s0:List β}(hl:l.length≤1000000)
  (hB:∀ (k:Nat) (hk:k < l.length) (s:List β),s.length=s0.length+k→B k s=some (.inl (s++[g l[k]]))) (hD:∀i s,D i s=some s):forR 0 (l.length:Int) B D s0=some (s0++l.map g):=by
 have hlen:l.length < 4611686018427387904:=by omega
 obtain⟨t,g1,g2⟩:=forR_inv (B:=B) (D:=D) l.length rfl hlen (fun i s=> s=s0++(l.map g).take i) (fun t=> t=s0++l.map g) (s:=s0) (by simp) (by
  rintro i s hi rfl;left;refine⟨_,hB i hi _ (by simp; omega),?_⟩;have:i < (l.map g).length:=by simpa using hi
  rw[←List.take_append_getElem this];simp) (by
  rintro s rfl;exact⟨_,hD _ _,by rw[List.take_of_length_le (by simp)]⟩)
 rw[g1,g2]
def dm(x:GFiltered)(n:Nat):Nat:=(x.Complex.Dims.getD n 0).toNat
theorem rest_take{p:Int}{R:List (List Int)}{v:List Int}{i:Nat}(hi:i < R.length):rest p (R.take (i+1)) v=subv p (rest p (R.take i) v) R[i] (nth (rest p (R.take i) v) (ld R[i])):=by
 rw[←List.take_append_getElem hi];unfold rest;rw[List.foldl_append];rfl
theorem F205_eq{p:Int}{w:Nat}(hp:IsP p){R:List (List Int)}(hR:Red p w R){v:List Int}(hv:VecOK p w v)(hw:w≤1000):F205 p v R=some (rest p R v):=by
 have hp0:0 < p:=by have:=hp.range; omega
 have hRl:=red_len hR;unfold F205;rw[F96_eq (by rw[hv.len]; omega),ob,F101_eq hR hw,ob];obtain⟨t,g1,g2⟩:=forR_inv (B:=F205_1_B p R (R.map fun r=>(ld r:Int))) (D:=F205_1_D) (hi:=((R.map fun r=>(ld r:Int)).length:Int)) R.length (by simp) (by omega) (fun i s=> s=rest p (R.take i) v) (fun t=> t=rest p R v) (s:=v) rfl (by
  rintro i s hi rfl;left;have hri:=hR.ok _ (List.getElem_mem hi);have hro:=hR.one _ (List.getElem_mem hi);have hok:=rest_ok hp0 (R:=R.take i) (fun r hr=> hR.ok r (List.mem_of_mem_take hr)) hv;have hrng:=hok.rng _ hro.1;refine⟨_,?_,(rest_take hi).symm⟩;unfold F205_1_B;rw[getI_nat (by simpa using hi),ob,List.getElem_map,getI_nat hi,ob,nth_get (by rw[hok.len]; exact hro.1),ob,F139_eq hp.range hrng hok hri (by omega),ob]) (by
  rintro s rfl;exact⟨_,rfl,by rw[List.take_length]⟩)
 rw[g1,g2]
theorem rest_rows{p:Int}{w:Nat}(hp0:0 < p){R N:List (List Int)}(hR:Rows p w R)(hN:Rows p w N):Rows p w (N.map (rest p R)):=fun r hr=> by
 obtain⟨v,hv,rfl⟩:=List.mem_map.1 hr;exact rest_ok hp0 hR (hN v hv)
theorem F204_eq{p:Int}{w:Nat}(hp:IsP p){R N:List (List Int)}(hR:Red p w R)(hN:Rows p w N)(hl:N.length≤1000)(hw:w≤1000):∃E,F204 p N R=some E∧F131 p (N.map (rest p R))=some E∧EchOf p w (N.map (rest p R)) E:=by
 have hp0:0 < p:=by have:=hp.range; omega
 obtain⟨E,e1,e2,e3⟩:=reduce_same hp (rest_rows hp0 hR.ok hN) (by omega) (by rw[List.length_map]; omega);refine⟨E,?_,e1,e3⟩;unfold F204;rw[forR_map (rest p R) (by omega) (fun k hk s hsl=> by
  have hv:=hN _ (List.getElem_mem hk);unfold F204_1_B;rw[getI_nat hk,ob,F205_eq hp hR hv hw,ob,app_ok (by simp; simp at hsl; omega) (by simp; simp at hsl; omega),ob]) (by intro i s; rfl),ob,List.nil_append,e2,ob]
theorem lin_at{p:Int}{n:Nat}{v:List Int}{m:List (List Int)}(H:LinOK p n v m){j:Nat}(hj:j < n):Cg p (nth (lin p n v m) j) (dot (nth v) m v.length j):=by
 have key:∀i,i≤v.length→Cg p (nth (linN p n v m i) j) (dot (nth v) m i j):=by
  intro i;induction i with
  |zero=> intro _; simp only[linN]; rw[show nth (List.replicate n (0:Int)) j=0 from nth_zv n j]; exact .refl _ _
  |succ i ih=>
   intro hi;obtain⟨h1,h2⟩:=linN_ok H i (by omega);have hm:i < m.length:=by have:=H.hl; omega
   have hr:=H.hr _ (List.getElem_mem hm);have e1:v.getD i 0=v[i]:=by simp[show i < v.length by omega]
   have e2:m.getD i []=m[i]:=by simp[hm]
   have hx:=H.hv _ (List.getElem_mem (show i < v.length by omega));have ho:=h2 _ (List.getElem_mem (show j < (linN p n v m i).length by omega));have hy:=hr.2 _ (List.getElem_mem (show j < m[i].length by omega));obtain⟨-, -,t1, -⟩:=small_mul H.hp hx hy ho;have e3:nth (linN p n v m (i+1)) j=((linN p n v m i)[j]+v[i]*(m[i])[j]).tmod p:=by
    simp only[linN,e1,e2];rw[nth_lt (by unfold addRow; rw[List.length_zipWith,h1,hr.1]; omega)];simp[addRow]
   have h0:0≤(linN p n v m i)[j]+v[i]*(m[i])[j]:=by have:=Int.mul_nonneg hx.1 hy.1; omega
   rw[e3,Int.tmod_eq_emod_of_nonneg h0];refine(Cg.mod _ _).trans ?_;show Cg p _ (sumI _ (i+1));unfold sumI;refine .add ?_ ?_
   ·have:=ih (by omega)
    rwa[nth_lt (by omega)]at this
   ·rw[nth_lt (show i < v.length by omega),rowAt_lt hm,nth_lt (show j < m[i].length by omega)]; exact .refl _ _
 exact key v.length (Nat.le_refl _)
theorem F188_eq{p:Int}{w:Nat}(hp:IsP p){T B:List (List Int)}(hT:Red p w T)(hB:Red p w B){v:List Int}(hv:VecOK p w v)(hw:w≤1000):F188 p v T B=some (leadsOf T (rest p B v)):=by
 have hp0:0 < p:=by have:=hp.range; omega
 have hTl:=red_len hT;have hok:=rest_ok hp0 hB.ok hv;unfold F188;rw[F205_eq hp hB hv hw,ob,F101_eq hT hw,ob,forR_map (l:=T.map fun r=>(ld r:Int)) (fun i=> nth (rest p B v) i.toNat) (by simp; omega) (fun k hk s hsl=> by
  have hk':k < T.length:=by simpa using hk
  have hone:=hT.one _ (List.getElem_mem hk');unfold F188_1_B;rw[getI_nat hk,ob,List.getElem_map,nth_get (by rw[hok.len]; exact hone.1),ob,app_ok (by simp; simp at hsl; omega) (by simp; simp at hsl; omega),ob,Int.toNat_natCast]) (by intro i s; rfl),ob,List.nil_append]
 unfold leadsOf;rw[List.map_map];rfl
def LTells(o:Option (Unit⊕(Unit⊕Bool)))(P:Prop):Prop:=∃b:Bool,o=some (if b=true then .inl ()else .inr (.inr false))∧(b=true↔P)
theorem LTells.iff{o:Option (Unit⊕(Unit⊕Bool))}{P Q:Prop}(h:LTells o P)(e:P↔Q):LTells o Q:=by
 obtain⟨b,h1,h2⟩:=h; exact⟨b,h1,h2.trans e⟩
def WTells(o:Option (Int⊕(Unit⊕Bool)))(i:Int)(P:Prop):Prop:=∃b:Bool,o=some (if b=true then .inl (i+1)else .inr (.inr false))∧(b=true↔P)
theorem WTells.iff{o:Option (Int⊕(Unit⊕Bool))}{i:Int}{P Q:Prop}(h:WTells o i P)(e:P↔Q):WTells o i Q:=by
 obtain⟨b,h1,h2⟩:=h; exact⟨b,h1,h2.trans e⟩
def dc(x:GComplex)(n:Nat):Nat:=(x.Dims.getD n 0).toNat
theorem dc_le{x:GComplex}(h:ValidC x)(n:Nat):dc x n≤8:=by
 unfold dc;by_cases hn:n < x.Dims.length
 ·have:=h.dim hn; omega
 ·rw[List.getD_eq_getElem?_getD,List.getElem?_eq_none (by omega)]; simp
theorem dc_at{x:GComplex}(h:ValidC x){n:Nat}(hn:n < x.Dims.length):x.Dims.getD n 0=(dc x n:Int):=by
 have:=h.dim hn;unfold dc; omega
theorem F99_dc{x:GComplex}(hx:SmallC x)(h:ValidC x){n:Nat}(hn:n≤x.Dims.length):F99 x (n:Int)=some (dc x n:Int):=by
 have hd:=hx.d;by_cases c:n < x.Dims.length
 ·rw[F99_at hx.d c,dc_at h c]
 ·have e:n=x.Dims.length:=by omega
  subst e;have:dc x x.Dims.length=0:=by unfold dc; rw[List.getD_eq_getElem?_getD,List.getElem?_eq_none (by omega)]; rfl
  unfold F99;rw[chk_ok (by omega) (by omega),ob,F54_eq,ob,if_neg (by simp; omega),this];rfl
theorem bounds_same{x:GComplex}(hx:SmallC x)(h:ValidC x){n:Nat}(hn:n < x.Dims.length):∃B,F251 x (n:Int)=some B∧F186 x (n:Int)=some B∧Red x.Prime (dc x n) B:=by
 have hd:=hx.d;have hml:=h.ml;have hdl:=h.dl;unfold F251 F186;rw[chk_ok (by omega) (by omega),ob,if_neg (by omega),F86_eq hx.d,ob];by_cases c:n+1 < x.Dims.length
 ·have ht:=h.tab n (by omega)
  have hr:Rows x.Prime (dc x n) (x.Maps.getD n []):=fun r hr=>(ht.2 r hr).vec;have hl:=ht.1;have hd1:=h.dim c;have:=dc_le h n;obtain⟨B,b1,b2,b3⟩:=reduce_same h.p hr (by omega) (by omega);rw[show(n:Int)+1=((n+1:Nat):Int) by omega,F76_eq hx.d c (by omega),ob,b1,ob,if_neg (by omega),getI_getD (show n < x.Maps.length by omega) [],ob,b2,ob];exact⟨B,rfl,rfl,b3.red⟩
 ·obtain⟨N,n1, -,n3⟩:=reduce_same (p:=x.Prime) (w:=dc x n) h.p (rows:=[]) (fun r hr=>(nomatch hr)) (by have:=dc_le h n; omega) (by simp)
  have hN:N=[]:=by have:=n3.same (by have:=h.p.range; omega) (EchOf.nil x.Prime (dc x n)); exact this
  subst hN;have e:F76 x ((n:Int)+1)=some []:=by
   unfold F76;rw[chk_ok (by omega) (by omega),ob,F54_eq,ob,if_neg (by simp; omega)];have h99:=F99_dc hx h (n:=n+1) (by omega);have h0:dc x (n+1)=0:=by unfold dc; rw[List.getD_eq_getElem?_getD,List.getElem?_eq_none (by omega)]; rfl
   rw[h0]at h99;obtain⟨t,g1,g2⟩:=loopW_inv (S:=F76_1_S x ((n:Int)+1)) (fun s=> 0) (fun s=> s=([],0)) (fun t=> t=[]) (s:=([],0)) rfl (by
    rintro s rfl;right;unfold F76_1_S;simp only;rw[show(n:Int)+1=((n+1:Nat):Int) by omega,h99,ob,if_neg (by simp)];exact⟨_,rfl,rfl⟩)
   rw[g1,ob,g2]
  rw[e,ob,n1,ob,if_pos (by omega)];exact⟨[],rfl,rfl,n3.red⟩
structure TabN (p:Int) (c w:Nat) (m:List (List Int)):Prop where
 len:m.length=c
 rows:Rows p w m
theorem TabN.of{p:Int}{c w:Nat}{m:List (List Int)}(T:TableOK p (c:Int) (w:Int) m):TabN p c w m:=⟨by have:=T.1; omega,fun r hr=>(T.2 r hr).vec⟩
structure PT (s0 ms:T3s) (φ:Nat→Nat→Nat→Nat×Nat×Nat) (val:Nat→Nat→Nat→Int) (D:Nat→Nat→Nat→Prop) (s:T3s):Prop where
 shp:Shp s s0
 at':∀k i j,InT ms k i j→(D k i j→numAt s (φ k i j).1 (φ k i j).2.1 (φ k i j).2.2=val k i j)∧(¬D k i j→numAt s (φ k i j).1 (φ k i j).2.1 (φ k i j).2.2=numAt s0 (φ k i j).1 (φ k i j).2.1 (φ k i j).2.2)
 out:∀a b c,InT s0 a b c→(∀k i j,InT ms k i j→φ k i j≠(a,b,c))→numAt s a b c=numAt s0 a b c
theorem PT.imp{s0 ms:T3s}{φ:Nat→Nat→Nat→Nat×Nat×Nat}{val:Nat→Nat→Nat→Int}{D D':Nat→Nat→Nat→Prop}{s:T3s}(h:PT s0 ms φ val D s)(hd:∀k i j,InT ms k i j→(D k i j↔D' k i j)):PT s0 ms φ val D' s:=
 ⟨h.shp,fun k i j hin=>⟨fun d=>(h.at' k i j hin).1 ((hd k i j hin).2 d),fun d=>(h.at' k i j hin).2 fun x=> d ((hd k i j hin).1 x)⟩,h.out⟩
theorem PT.zero{s0 ms:T3s}{φ:Nat→Nat→Nat→Nat×Nat×Nat}{val:Nat→Nat→Nat→Int}:PT s0 ms φ val (fun _ _ _=> False) s0:=⟨.refl _,fun k i j _=>⟨fun x=> x.elim,fun _=> rfl⟩,fun _ _ _ _ _=> rfl⟩
theorem PT.step{s0 ms:T3s}{φ:Nat→Nat→Nat→Nat×Nat×Nat}{val:Nat→Nat→Nat→Int}(hi:∀k i j,InT ms k i j→InT s0 (φ k i j).1 (φ k i j).2.1 (φ k i j).2.2)(hinj:∀k i j k' i' j',InT ms k i j→InT ms k' i' j'→φ k i j=φ k' i' j'→k=k'∧i=i'∧j=j')
  {D D':Nat→Nat→Nat→Prop} {s:T3s} (h:PT s0 ms φ val D s) {k i j:Nat} (hin:InT ms k i j) (hd:∀k' i' j',D' k' i' j'↔D k' i' j'∨(k'=k∧i'=i∧j'=j)):PT s0 ms φ val D' (put3 s (φ k i j).1 (φ k i j).2.1 (φ k i j).2.2 (val k i j)):=by
 have hs:=h.shp.inT (hi k i j hin);refine⟨(put3_shp hs _).trans h.shp,fun k' i' j' hin'=>?_,fun a b c habc hne=>?_⟩
 ·rw[put3_at hs]
  by_cases e:k'=k∧i'=i∧j'=j
  ·obtain⟨rfl,rfl,rfl⟩:=e
   rw[if_pos ⟨rfl,rfl,rfl⟩];exact⟨fun _=> rfl,fun d=> absurd ((hd _ _ _).2 (.inr ⟨rfl,rfl,rfl⟩)) d⟩
  ·rw[if_neg fun q=> e (hinj k' i' j' k i j hin' hin (Prod.ext q.1 (Prod.ext q.2.1 q.2.2)))]
   refine⟨fun d=>(h.at' _ _ _ hin').1 (((hd _ _ _).1 d).resolve_right e),fun d=>(h.at' _ _ _ hin').2 fun x=> d ((hd _ _ _).2 (.inl x))⟩
 ·rw[put3_at hs,if_neg fun q=> hne k i j hin (Prod.ext q.1.symm (Prod.ext q.2.1.symm q.2.2.symm))]
  exact h.out a b c habc hne
structure Fam (x y:GComplex) (f:T3s):Prop where
 sx:SmallC x
 sy:SmallC y
 sf:SmallT f
 vx:ValidC x
 vy:ValidC y
 pp:y.Prime=x.Prime
 l:y.Dims.length=x.Dims.length
 fl:f.length=x.Dims.length
 t:∀n,n < x.Dims.length→TabN x.Prime (dc x n) (dc y n) (f.getD n [])
theorem Fam.inT{x y:GComplex}{f:T3s}(F:Fam x y f){k i j:Nat}:InT f k i j↔k < x.Dims.length∧i < dc x k∧j < dc y k:=by
 have hfl:=F.fl;unfold InT;constructor
 ·rintro⟨h1,h2,h3⟩
  have ht:=F.t k (by omega);have a:=ht.len;have b:=(ht.rows _ (getD_mem h2 [])).len;exact⟨by omega,by omega,by omega⟩
 ·rintro⟨h1,h2,h3⟩
  have ht:=F.t k h1;have a:=ht.len;have h2':i < (f.getD k []).length:=by omega
  have b:=(ht.rows _ (getD_mem h2' [])).len;exact⟨by omega,h2',by omega⟩
structure WideC (x:GComplex):Prop where
 p:IsP x.Prime
 dl:1≤x.Dims.length∧x.Dims.length≤100
 ml:x.Maps.length+1=x.Dims.length
 dims:∀d∈x.Dims,0≤d∧d≤100
 tab:∀k,k < x.Maps.length→TabAt x k
theorem WideC.dim{x:GComplex}(h:WideC x){n:Nat}(hn:n < x.Dims.length):0≤x.Dims.getD n 0∧x.Dims.getD n 0≤100:=h.dims _ (getD_mem hn 0)
theorem lin_okof{p:Int}(hp:IsP p){c w:Nat}{m:List (List Int)}(hml:m.length=c)(hm:Rows p w m)(hc:c≤1000)(hw:w≤1000){v:List Int}(hv:VecOK p c v):LinOK p w v m:=by
 have hvl:=hv.len;exact⟨hp.range,fun y hy=> by
  obtain⟨k,hk,rfl⟩:=List.getElem_of_mem hy;have:=hv.rng k (by omega)
  rwa[nth_lt hk]at this,by omega,fun l hl=>⟨(hm l hl).len,fun y hy=> by
  have hl':=hm l hl;have hll:=hl'.len;obtain⟨k,hk,rfl⟩:=List.getElem_of_mem hy;have:=hl'.rng k (by omega)
  rwa[nth_lt hk]at this⟩,by omega,by omega⟩
theorem lin_vec{p:Int}{w:Nat}{m:List (List Int)}{v:List Int}(H:LinOK p w v m):VecOK p w (lin p w v m):=by
 have hok:=linN_ok H v.length (Nat.le_refl _);refine⟨hok.1,fun j hj=>?_⟩;have hj':j < (lin p w v m).length:=by rw[lin_len H]; exact hj
 rw[nth_lt hj'];exact hok.2 _ (List.getElem_mem hj')
def w2(l:List (List Int)):Nat:=(l.map List.length).sum
def w3(l:List (List (List Int))):Nat:=(l.map w2).sum
def w4(l:List (List (List (List Int)))):Nat:=(l.map w3).sum
theorem rest_loop{x:GComplex}{p:Int}(hpx:x.Prime=p){w:Nat}(hp:2≤p∧p≤7){K B:List (List Int)}(hB:Red p w B)(hK:Rows p w K)(hl:K.length≤1000)(hbl:B.length≤1000)(hw:w≤1000):forR 0 (K.length:Int) (F250_1_B x K B) (F250_1_D x K B) []=some (K.map (rest p B)):=by
 obtain⟨t,g1,g2⟩:=forR_inv (B:=F250_1_B x K B) (D:=F250_1_D x K B) K.length rfl (by omega) (fun i s=> s=(K.take i).map (rest p B)) (fun t=> t=K.map (rest p B)) (s:=[]) (by simp) (by
  rintro i s hi rfl;left;unfold F250_1_B;rw[getI_nat hi,ob,hpx,F134_eq hp hB (hK _ (List.getElem_mem hi)) (by omega) (by omega),ob,app_ok (by simp; omega) (by simp; omega),ob];exact⟨_,rfl,by rw[←List.take_append_getElem hi,List.map_append]; rfl⟩) (by
  rintro s rfl;exact⟨_,rfl,by rw[List.take_length]⟩)
 rw[g1,g2]
theorem holes_same{x:GComplex}(hx:SmallC x)(h:ValidC x){n:Nat}(hn:n < x.Dims.length):∃E,F250 x (n:Int)=some E∧F189 x (n:Int)=some E∧Red x.Prime (dc x n) E:=by
 have hp:=h.p.range;have hd:=dc_le h n;obtain⟨K,k1,k2,k3⟩:=cycles_same hx h hn;obtain⟨B,b1,b2,b3⟩:=bounds_same hx h hn;have k3':Red x.Prime (dc x n) K:=k3;have hkl:=red_len k3';have hbl:=red_len b3;obtain⟨E,e1,e2,e3⟩:=F204_eq h.p b3 k3'.ok (by omega) (by omega);unfold F250 F189;rw[k1,k2,ob,ob,b1,b2,ob,ob,rest_loop rfl hp b3 k3'.ok (by omega) (by omega) (by omega),ob,e1,e2,ob];exact⟨E,rfl,rfl,e3.red⟩
structure Plc (fr:List Int) (d:Nat) (g:Nat→Int) (s:List Int):Prop where
 len:s.length=d
 at_:∀i,i < fr.length→nth s (fr.getD i 0).toNat=g i
 out:∀q,(∀i,i < fr.length→(fr.getD i 0).toNat≠q)→nth s q=0
structure Plcs (fr:List Int) (d:Nat):Prop where
 rng:∀y∈fr,0≤y∧y < (d:Int)
 dis:fr.Pairwise (·≠ ·)
theorem Plcs.at_{fr:List Int}{d:Nat}(P:Plcs fr d){i:Nat}(h:i < fr.length):0≤fr.getD i 0∧fr.getD i 0 < (d:Int):=P.rng _ (getD_mem h 0)
theorem Plcs.ne{fr:List Int}{d:Nat}(P:Plcs fr d){i j:Nat}(hi:i < fr.length)(hj:j < fr.length)(h:i≠j):(fr.getD i 0).toNat≠(fr.getD j 0).toNat:=by
 have a:=P.at_ hi;have b:=P.at_ hj;have key:∀i j,(hi:i < fr.length)→(hj:j < fr.length)→i < j→fr.getD i 0≠fr.getD j 0:=fun i j hi hj h=> by
  have:=List.pairwise_iff_getElem.1 P.dis i j hi hj h;rw[List.getD_eq_getElem?_getD,List.getElem?_eq_getElem hi,List.getD_eq_getElem?_getD,List.getElem?_eq_getElem hj];exact this
 rcases Nat.lt_or_gt_of_ne h with c|c
 ·have:=key i j hi hj c; omega
 ·have:=key j i hj hi c; omega
theorem Plc.zero{fr:List Int}{d:Nat}{g:Nat→Int}(hg:∀i,i < fr.length→g i=0):Plc fr d g (zv d):=⟨by simp[zv],fun i hi=> by rw[nth_zv,hg i hi],fun q _=> nth_zv _ _⟩
theorem nth_setP{s:List Int}{i j:Nat}{a:Int}(h:i < s.length):nth (s.set i a) j=if i=j then a else nth s j:=by
 unfold nth;rw[List.getD_eq_getElem?_getD,List.getD_eq_getElem?_getD,List.getElem?_set];by_cases c:i=j
 ·subst c; rw[if_pos rfl,if_pos rfl,if_pos h]; rfl
 ·rw[if_neg c,if_neg c]
theorem Plc.set{fr:List Int}{d:Nat}{g:Nat→Int}{s:List Int}(P:Plcs fr d)(h:Plc fr d g s){i:Nat}(hi:i < fr.length){a:Int}{g':Nat→Int}(e1:g' i=a)(e2:∀k,k < fr.length→k≠i→g' k=g k):Plc fr d g' (s.set (fr.getD i 0).toNat a):=by
 have hr:=P.at_ hi;have hl:=h.len;refine⟨by rw[List.length_set]; exact hl,fun k hk=>?_,fun q hq=>?_⟩
 ·rw[nth_setP (by omega)]
  by_cases c:k=i
  ·subst c; rw[if_pos rfl,e1]
  ·rw[if_neg (P.ne hi hk (Ne.symm c)),h.at_ k hk,e2 k hk c]
 ·rw[nth_setP (by omega),if_neg (hq i hi),h.out q hq]
theorem Plc.eq{fr:List Int}{d:Nat}{g:Nat→Int}{s t:List Int}(h:Plc fr d g s)(k:Plc fr d g t):s=t:=by
 have hl:=h.len;have kl:=k.len;refine List.ext_getElem (by omega) fun q h1 h2=>?_;rw[←nth_lt h1,←nth_lt h2];by_cases c:∃i,i < fr.length∧(fr.getD i 0).toNat=q
 ·obtain⟨i,hi,rfl⟩:=c
  rw[h.at_ i hi,k.at_ i hi]
 ·rw[h.out q fun i hi e=> c ⟨i,hi,e⟩,k.out q fun i hi e=> c ⟨i,hi,e⟩]
structure LongG (a:GDga):Prop where
 p:Long0 a.Prime
 s:Long0 a.Size
 d:LongA .i64 8 a.Degrees
 l:LongA .i64 8 a.Levels
 f:LongA .u8 64 a.Diff
 t:LongA .u8 512 a.Table
def By(n:Nat)(u:List Int):Prop:=∀k,k < n→0≤u.getD k 0∧u.getD k 0≤255
theorem by_of{n:Nat}{u:Ar .u8 n}(h:LongA .u8 n u):By n u.val:=fun k hk=> by
 have hl:=h.1;have:=h.2 _ (List.getElem_mem (show k < u.val.length by omega));rw[List.getD_eq_getElem?_getD,List.getElem?_eq_getElem (by omega)];exact Go.bounds_u8 this
theorem getD_ext8{n:Nat}{u v:List Int}(hu:u.length=n)(hv:v.length=n)(h:∀k,k < n→u.getD k 0=v.getD k 0):u=v:=by
 apply List.ext_getElem (by omega);intro i h1 h2;have:=h i (by omega)
 rwa[List.getD_eq_getElem?_getD,List.getD_eq_getElem?_getD,List.getElem?_eq_getElem h1,List.getElem?_eq_getElem h2]at this
theorem ixI_nat{n i:Nat}(h:i < n):ixI n (i:Int)=some i:=by
 unfold ixI; rw[if_pos (by omega),Int.toNat_natCast]
theorem F253_eq{a:Ar .i64 8}(h:a.val.length=8):F253 a=some a:=by
 obtain⟨t,h1,h2⟩:=forR_inv (B:=F253_1_B a) (D:=F253_1_D a) (hi:=8) 8 rfl (by decide) (fun i o=>(0 < i→o.length=8)∧∀k,k < i→o.getD k 0=a.val.getD k 0) (fun t=> t=a.val) (s:=[]) ⟨fun h=> by omega,fun k hk=> by omega⟩ (fun i o hi ho=> by
   refine .inl ⟨arW 8 o i (a.val.getD i 0),?_,fun _=> arW_len,fun k hk=>?_⟩
   ·unfold F253_1_B; rw[ixI_nat hi,ob,ob]
   ·rw[arW_get (by omega)]
    by_cases hk2:k=i
    ·rw[if_pos hk2,hk2]
    ·rw[if_neg hk2]; exact ho.2 k (by omega)) (fun o ho=>⟨o,rfl,getD_ext8 (ho.1 (by omega)) h ho.2⟩)
 unfold F253;rw[h1,ob,h2]
theorem F291_eq{a:Ar .u8 8}(h:a.val.length=8):F291 a=some a:=by
 obtain⟨t,h1,h2⟩:=forR_inv (B:=F291_1_B a) (D:=F291_1_D a) (hi:=8) 8 rfl (by decide) (fun i o=>(0 < i→o.length=8)∧∀k,k < i→o.getD k 0=a.val.getD k 0) (fun t=> t=a.val) (s:=[]) ⟨fun h=> by omega,fun k hk=> by omega⟩ (fun i o hi ho=> by
   refine .inl ⟨arW 8 o i (a.val.getD i 0),?_,fun _=> arW_len,fun k hk=>?_⟩
   ·unfold F291_1_B; rw[ixI_nat hi,ob,ob]
   ·rw[arW_get (by omega)]
    by_cases hk2:k=i
    ·rw[if_pos hk2,hk2]
    ·rw[if_neg hk2]; exact ho.2 k (by omega)) (fun o ho=>⟨o,rfl,getD_ext8 (ho.1 (by omega)) h ho.2⟩)
 unfold F291;rw[h1,ob,h2]
theorem arP_len{l:List Int}{o m n:Nat}(h:l.length=n)(ho:o+m≤n):(arP l o m).length=m:=by
 simp only[arP,List.length_take,List.length_drop]; omega
theorem F254_eq{a:Ar .u8 64}(h:a.val.length=64):F254 a=some a:=by
 obtain⟨t,h1,h2⟩:=forR_inv (B:=F254_1_B a) (D:=F254_1_D a) (hi:=8) 8 rfl (by decide) (fun i o=>(0 < i→o.length=64)∧∀k,k < i*8→o.getD k 0=a.val.getD k 0) (fun t=> t=a.val) (s:=[]) ⟨fun h=> by omega,fun k hk=> by omega⟩ (fun i o hi ho=> by
   refine .inl ⟨arU 64 o (i*8) 8 (arP a.val (i*8) 8),?_,fun _=> arU_len,fun k hk=>?_⟩
   ·unfold F254_1_B; rw[ixI_nat hi,ob,F291_eq (a:=⟨arP a.val (i*8) 8⟩) (arP_len h (by omega)),ob,ob]
   ·rw[arU_get (by omega)]
    by_cases hk2:i*8≤k∧k < i*8+8
    ·rw[if_pos hk2,arP_get (by omega)]; congr 1; omega
    ·rw[if_neg hk2]; exact ho.2 k (by omega)) (fun o ho=>⟨o,rfl,getD_ext8 (ho.1 (by omega)) h ho.2⟩)
 unfold F254;rw[h1,ob,h2]
theorem F255_eq{a:Ar .u8 512}(h:a.val.length=512):F255 a=some a:=by
 obtain⟨t,h1,h2⟩:=forR_inv (B:=F255_1_B a) (D:=F255_1_D a) (hi:=8) 8 rfl (by decide) (fun i o=>(0 < i→o.length=512)∧∀k,k < i*64→o.getD k 0=a.val.getD k 0) (fun t=> t=a.val) (s:=[]) ⟨fun h=> by omega,fun k hk=> by omega⟩ (fun i o hi ho=> by
   refine .inl ⟨arU 512 o (i*64) 64 (arP a.val (i*64) 64),?_,fun _=> arU_len,fun k hk=>?_⟩
   ·unfold F255_1_B; rw[ixI_nat hi,ob,F254_eq (a:=⟨arP a.val (i*64) 64⟩) (arP_len h (by omega)),ob,ob]
   ·rw[arU_get (by omega)]
    by_cases hk2:i*64≤k∧k < i*64+64
    ·rw[if_pos hk2,arP_get (by omega)]; congr 1; omega
    ·rw[if_neg hk2]; exact ho.2 k (by omega)) (fun o ho=>⟨o,rfl,getD_ext8 (ho.1 (by omega)) h ho.2⟩)
 unfold F255;rw[h1,ob,h2]
theorem F229_eq{a:GDga}(h:LongG a):F229 a=some a:=by
 unfold F229;rw[ob,ob,F253_eq h.d.1,ob,ob,F253_eq h.l.1,ob,ob,F254_eq h.f.1,ob,ob,F255_eq h.t.1,ob,ob]
def UTells(o:Option (Unit⊕Bool))(P:Prop):Prop:=(o=some (.inl ())∧P)∨(o=some (.inr false)∧¬P)
theorem LTells.t{o:Option (Unit⊕(Unit⊕Bool))}{P:Prop}(h:o=some (.inl ()))(p:P):LTells o P:=⟨true,h,by simp[p]⟩
theorem LTells.f{o:Option (Unit⊕(Unit⊕Bool))}{P:Prop}(h:o=some (.inr (.inr false)))(p:¬P):LTells o P:=⟨false,h,by simp[p]⟩
theorem forR_unit{B:Int→Unit→Option (Unit⊕(Unit⊕Bool))}{D:Int→Unit→Option (Unit⊕Bool)}{hi:Int}(n:Nat)(hn:hi=n)(hs:n < 4611686018427387904)(C:Nat→Prop)
  (hb:∀i:Nat,i < n→(∀j,j < i→C j)→LTells (B i ()) (C i)) (hd:D n ()=some (.inl ())):UTells (forR 0 hi B D ()) (∀i,i < n→C i):=by
 obtain⟨t,h1,h2⟩:=forR_inv (B:=B) (D:=D) (hi:=hi) n hn hs (fun i _=>∀j,j < i→C j) (fun t=>(t= .inl ()∧∀i,i < n→C i)∨(t= .inr false∧¬∀i,i < n→C i)) (s:=()) (fun j hj=> by omega) (fun i s hi hI=> by
  obtain⟨b,h1,h2⟩:=hb i hi hI;cases b with
  |true=>
   refine .inl ⟨(),h1,fun j hj=>?_⟩;by_cases e:j=i
   ·rw[e]; exact h2.1 rfl
   ·exact hI j (by omega)
  |false=> exact .inr ⟨.inr false,h1,.inr ⟨rfl,fun q=> by have:=h2.2 (q i hi); cases this⟩⟩) (fun s hI=>⟨.inl (),hd,.inl ⟨rfl,hI⟩⟩)
 rcases h2 with⟨rfl,h2⟩|⟨rfl,h2⟩
 ·exact .inl ⟨h1,h2⟩
 ·exact .inr ⟨h1,h2⟩
theorem UTells.end_{o:Option (Unit⊕Bool)}{P:Prop}(h:UTells o P){f:(Unit⊕Bool)→Option Bool}(h1:f (.inl ())=some true)(h2:f (.inr false)=some false):Tells (o.bind f) P:=by
 rcases h with⟨e,p⟩|⟨e,p⟩
 ·exact .of_true (by rw[e]; exact h1) p
 ·exact .of_false (by rw[e]; exact h2) p
theorem UTells.round{o:Option (Unit⊕Bool)}{P:Prop}(h:UTells o P){f:(Unit⊕Bool)→Option (Unit⊕(Unit⊕Bool))}(h1:f (.inl ())=some (.inl ()))(h2:f (.inr false)=some (.inr (.inr false))):LTells (o.bind f) P:=by
 rcases h with⟨e,p⟩|⟨e,p⟩
 ·exact .t (by rw[e]; exact h1) p
 ·exact .f (by rw[e]; exact h2) p
theorem Tells.and{o:Option Bool}{P Q:Prop}{f:Bool→Option (Unit⊕(Unit⊕Bool))}(h:Tells o P)(h1:P→LTells (f true) Q)(h2:f false=some (.inr (.inr false))):LTells (o.bind f) (P∧Q):=by
 rcases h.case with⟨e,p⟩|⟨e,p⟩
 ·rw[e,ob]; exact(h1 p).iff ⟨fun q=>⟨p,q⟩,fun q=> q.2⟩
 ·rw[e,ob,h2]; exact .f rfl fun q=> p q.1
def SmE(p s:Int)(u:List Int):Prop:=∀k:Nat,k < 8→u.getD k 0 < p∧(s≤k→u.getD k 0=0)
theorem F195_tells{a:GDga}{u:List Int}(hu:By 8 u):Tells (F195 a ⟨u⟩) (SmE a.Prime a.Size u):=by
 unfold F195;refine(forR_unit 8 rfl (by decide) (fun k=> u.getD k 0 < a.Prime∧(a.Size≤k→u.getD k 0=0)) (fun k hk _=>?_) rfl).end_ rfl rfl;have:=hu k hk;unfold F195_1_B;simp only;rw[ixI_nat hk,ob,chk_ok (by omega) (by omega),ob];by_cases c1:a.Prime≤u.getD k 0
 ·rw[if_pos c1]; exact .f rfl fun q=> by omega
 rw[if_neg c1];by_cases c2:a.Size≤k
 ·rw[if_pos c2]
  by_cases c3:u.getD k 0=0
  ·rw[if_pos c3]; exact .t rfl ⟨by omega,fun _=> c3⟩
  ·rw[if_neg c3]; exact .f rfl fun q=> c3 (q.2 c2)
 ·rw[if_neg c2]; exact .t rfl ⟨by omega,fun q=> absurd q c2⟩
theorem F181_tells{p s:Int}{u:List Int}(hu:By 8 u):Tells (F181 p s ⟨u⟩) (SmE p s u):=by
 unfold F181;refine(forR_unit 8 rfl (by decide) (fun k=> u.getD k 0 < p∧(s≤k→u.getD k 0=0)) (fun k hk _=>?_) rfl).end_ rfl rfl;have:=hu k hk;unfold F181_1_B;simp only;rw[ixI_nat hk,ob,chk_ok (by omega) (by omega),ob];by_cases c1:p≤u.getD k 0
 ·rw[if_pos c1]; exact .f rfl fun q=> by omega
 rw[if_neg c1];by_cases c2:s≤k
 ·rw[if_pos c2]
  by_cases c3:u.getD k 0=0
  ·rw[if_pos c3]; exact .t rfl ⟨by omega,fun _=> c3⟩
  ·rw[if_neg c3]; exact .f rfl fun q=> c3 (q.2 c2)
 ·rw[if_neg c2]; exact .t rfl ⟨by omega,fun q=> absurd q c2⟩
def LiE(a:GDga)(n:Nat)(u:List Int)(d l:Int):Prop:=∀k:Nat,k < n→u.getD k 0≠0→a.Degrees.val.getD k 0=d∧a.Levels.val.getD k 0≤l
theorem F196_tells(a:GDga)(u:List Int)(d l:Int):Tells (F196 a ⟨u⟩ d l) (LiE a 8 u d l):=by
 unfold F196;refine(forR_unit 8 rfl (by decide) (fun k=> u.getD k 0≠0→a.Degrees.val.getD k 0=d∧a.Levels.val.getD k 0≤l) (fun k hk _=>?_) rfl).end_ rfl rfl;unfold F196_1_B;simp only;rw[ixI_nat hk,ob];by_cases c1:u.getD k 0=0
 ·rw[if_pos c1]; exact .t rfl fun q=> absurd c1 q
 rw[if_neg c1];by_cases c2:a.Degrees.val.getD k 0=d
 ·rw[if_pos c2]
  by_cases c3:l < a.Levels.val.getD k 0
  ·rw[if_pos c3]; exact .f rfl fun q=> by have:=(q c1).2; omega
  ·rw[if_neg c3]; exact .t rfl fun _=>⟨c2,by omega⟩
 ·rw[if_neg c2]; exact .f rfl fun q=> c2 (q c1).1
theorem F210_tells{a:GDga}{n:Nat}(hn:a.Size=n)(h8:n≤8)(u:List Int)(d l:Int):Tells (F210 a ⟨u⟩ d l) (LiE a n u d l):=by
 unfold F210;refine(forR_unit n hn (by omega) (fun k=> u.getD k 0≠0→a.Degrees.val.getD k 0=d∧a.Levels.val.getD k 0≤l) (fun k hk _=>?_) rfl).end_ rfl rfl;unfold F210_1_B;simp only;rw[ixI_nat (show k < 8 by omega),ob];by_cases c1:u.getD k 0=0
 ·rw[if_pos c1]; exact .t rfl fun q=> absurd c1 q
 rw[if_neg c1];by_cases c2:a.Degrees.val.getD k 0=d
 ·rw[if_pos c2]
  by_cases c3:l < a.Levels.val.getD k 0
  ·rw[if_pos c3]; exact .f rfl fun q=> by have:=(q c1).2; omega
  ·rw[if_neg c3]; exact .t rfl fun _=>⟨c2,by omega⟩
 ·rw[if_neg c2]; exact .f rfl fun q=> c2 (q c1).1
def EqE(u v:List Int):Prop:=∀k,k < 8→u.getD k 0=v.getD k 0
theorem okA_by{n:Nat}{u:List Int}(h:By n u):okA .u8 n u:=fun k hk=> by
 have:=h k hk;generalize u.getD k 0=x at this ⊢;simp[Go.Lit.wf,Go.IntKind.min,Go.IntKind.max,Go.IntKind.signed,Go.IntKind.bits];omega
theorem arE_tells{u v:List Int}(hu:By 8 u)(hv:By 8 v):Tells (arE .u8 8 u v) (EqE u v):=by
 unfold arE;rw[if_pos ⟨okA_by hu,okA_by hv⟩];exact⟨_,rfl,by unfold arQ EqE; rw[decide_eq_true_eq]⟩
theorem by_nil(n:Nat):By n []:=fun k _=> by simp
theorem by_arP{n o m:Nat}{l:List Int}(h:By n l)(ho:o+m≤n):By m (arP l o m):=fun k hk=> by rw[arP_get hk]; exact h _ (by omega)
def Df(a:GDga)(i:Nat):List Int:=arP a.Diff.val (i*8) 8
def Tb(a:GDga)(i j:Nat):List Int:=arP a.Table.val (i*64+j*8) 8
def Dg(a:GDga)(i:Nat):Int:=a.Degrees.val.getD i 0
def Lv(a:GDga)(i:Nat):Int:=a.Levels.val.getD i 0
def R5(x:Int):Prop:=0≤x∧x≤5
theorem Tells.andB{o:Option Bool}{P Q:Prop}{f:Bool→Option Bool}(h:Tells o P)(h1:P→Tells (f true) Q)(h2:f false=some false):Tells (o.bind f) (P∧Q):=by
 rcases h.case with⟨e,p⟩|⟨e,p⟩
 ·rw[e,ob]; exact(h1 p).iff ⟨fun q=>⟨p,q⟩,fun q=> q.2⟩
 ·rw[e,ob,h2]; exact .of_false rfl fun q=> p q.1
theorem UTells.andB{o:Option (Unit⊕Bool)}{P Q:Prop}{f:(Unit⊕Bool)→Option Bool}(h:UTells o P)(h1:P→Tells (f (.inl ())) Q)(h2:f (.inr false)=some false):Tells (o.bind f) (P∧Q):=by
 rcases h with⟨e,p⟩|⟨e,p⟩
 ·rw[e,ob]; exact(h1 p).iff ⟨fun q=>⟨p,q⟩,fun q=> q.2⟩
 ·rw[e,ob,h2]; exact .of_false rfl fun q=> p q.1
theorem LTells.iteP{c P:Prop}[Decidable c]{x:Option (Unit⊕(Unit⊕Bool))}(h:c→LTells x P):LTells (if c then x else some (.inr (.inr false))) (c∧P):=by
 by_cases hc:c
 ·rw[if_pos hc]; exact(h hc).iff ⟨fun q=>⟨hc,q⟩,fun q=> q.2⟩
 ·rw[if_neg hc]; exact .f rfl fun q=> hc q.1
theorem LTells.nite{c P:Prop}[Decidable c]{x:Option (Unit⊕(Unit⊕Bool))}(h:¬c→LTells x P):LTells (if c then some (.inr (.inr false))else x) (¬c∧P):=by
 by_cases hc:c
 ·rw[if_pos hc]; exact .f rfl fun q=> q.1 hc
 ·rw[if_neg hc]; exact(h hc).iff ⟨fun q=>⟨hc,q⟩,fun q=> q.2⟩
theorem LTells.last{o:Option Bool}{P:Prop}{f:Bool→Option (Unit⊕(Unit⊕Bool))}(h:Tells o P)(h1:f true=some (.inl ()))(h2:f false=some (.inr (.inr false))):LTells (o.bind f) P:=by
 rcases h.case with⟨e,p⟩|⟨e,p⟩
 ·exact .t (by rw[e]; exact h1) p
 ·exact .f (by rw[e]; exact h2) p
abbrev nt:¬(false=true):=Bool.false_ne_true
def C2I(a:GDga)(n i j:Nat):Prop:=SmE a.Prime a.Size (Tb a i j)∧((¬i < n∨n≤j)→EqE (Tb a i j) [])∧LiE a 8 (Tb a i j) (Go.IntKind.wrap .i64 (Dg a i+Dg a j)) (Go.IntKind.wrap .i64 (Lv a i+Lv a j))
def C1I(a:GDga)(n i:Nat):Prop:=(i < n→R5 (Dg a i)∧R5 (Lv a i)∧SmE a.Prime a.Size (Df a i)∧(0 < i→¬Dg a i < Dg a (i - 1))∧LiE a 8 (Df a i) (Dg a i - 1) (Lv a i)∧∀j,j < 8→C2I a n i j)∧
 (¬i < n→Dg a i=0∧Lv a i=0∧EqE (Df a i) []∧R5 (Dg a i)∧R5 (Lv a i)∧SmE a.Prime a.Size (Df a i)∧∀j,j < 8→C2I a n i j)
theorem F176_2_tells{a:GDga}(ht:By 512 a.Table.val){n:Nat}(hn:a.Size=n){i:Nat}(hi:i < 8):UTells (forR 0 8 (F176_2_B a i) (F176_2_D a i) ()) (∀j,j < 8→C2I a n i j):=by
 refine forR_unit 8 rfl (by decide) (C2I a n i) (fun j hj _=>?_) rfl;have hT:By 8 (Tb a i j):=by_arP ht (by omega);have s1:=F195_tells (a:=a) hT;have s2:=F196_tells a (Tb a i j) (Go.IntKind.wrap .i64 (Dg a i+Dg a j)) (Go.IntKind.wrap .i64 (Lv a i+Lv a j));have s3:=arE_tells hT (by_nil 8);unfold F176_2_B C2I;rw[ixI_nat hi,ob,ixI_nat hj,ob];refine(s1.and (fun _=>?_) (if_neg nt));rw[if_pos rfl];by_cases c1:(i:Int) < a.Size
 ·rw[if_pos c1]
  by_cases c2:a.Size≤(j:Int)
  ·rw[if_pos c2]
   refine(s3.and (fun _=>?_) (if_neg nt)).iff ⟨fun q=>⟨fun _=> q.1,q.2⟩,fun q=>⟨q.1 (.inr (by omega)),q.2⟩⟩;rw[if_pos rfl];exact .last s2 (if_pos rfl) (if_neg nt)
  ·rw[if_neg c2]
   refine(LTells.last s2 (if_pos rfl) (if_neg nt)).iff ⟨fun q=>⟨fun w=> by omega,q⟩,fun q=> q.2⟩
 ·rw[if_neg c1]
  refine(s3.and (fun _=>?_) (if_neg nt)).iff ⟨fun q=>⟨fun _=> q.1,q.2⟩,fun q=>⟨q.1 (.inl (by omega)),q.2⟩⟩;rw[if_pos rfl];exact .last s2 (if_pos rfl) (if_neg nt)
theorem F176_1_tells{a:GDga}(hf:By 64 a.Diff.val)(ht:By 512 a.Table.val){n:Nat}(hn:a.Size=n)(h8:n≤8){i:Nat}(hi:i < 8):LTells (F176_1_B a i ()) (C1I a n i):=by
 have hT:=F176_2_tells ht hn hi;have hD:By 8 (Df a i):=by_arP hf (by omega);have s1:=F195_tells (a:=a) hD;have s3:=arE_tells hD (by_nil 8);have r1:Tells (F56 (a.Degrees.val.getD i 0) 0 5) (R5 (Dg a i)):=Tells.dec (P:=0≤_∧_≤5) (F56_eq _ _ _);have r2:Tells (F56 (a.Levels.val.getD i 0) 0 5) (R5 (Lv a i)):=Tells.dec (P:=0≤_∧_≤5) (F56_eq _ _ _);unfold F176_1_B;by_cases c:(i:Int) < a.Size
 ·rw[if_pos c,ixI_nat hi,ob]
  refine LTells.iff (P:=R5 (Dg a i)∧R5 (Lv a i)∧SmE a.Prime a.Size (Df a i)∧(0 < i→¬Dg a i < Dg a (i - 1))∧LiE a 8 (Df a i) (Dg a i - 1) (Lv a i)∧∀j,j < 8→C2I a n i j) ?_ ⟨fun q=>⟨fun _=> q,fun w=> by omega⟩,fun q=> q.1 (by omega)⟩;refine r1.and (fun q1=>?_) (if_neg nt);rw[if_pos rfl];refine r2.and (fun q2=>?_) (if_neg nt);rw[if_pos rfl];refine s1.and (fun _=>?_) (if_neg nt);rw[if_pos rfl];have q1':=q1.1;have q1'':=q1.2;simp only[Dg]at q1' q1'';have s2:=F196_tells a (Df a i) (a.Degrees.val.getD i 0 - 1) (a.Levels.val.getD i 0);by_cases c0:0 < (i:Int)
  ·rw[if_pos c0,chk_ok (by omega) (by omega),ob,show((i:Int) - 1)=((i - 1:Nat):Int) by omega,ixI_nat (by omega),ob]
   refine LTells.iff (LTells.nite (P:=LiE a 8 (Df a i) (Dg a i - 1) (Lv a i)∧∀j,j < 8→C2I a n i j) fun _=>?_) ⟨fun q=>⟨fun _=> q.1,q.2⟩,fun q=>⟨q.1 (by omega),q.2⟩⟩;rw[chk_ok (by omega) (by omega),ob];refine s2.and (fun _=>?_) (if_neg nt);rw[if_pos rfl];exact hT.round rfl rfl
  ·rw[if_neg c0,chk_ok (by omega) (by omega),ob]
   refine LTells.iff (P:=LiE a 8 (Df a i) (Dg a i - 1) (Lv a i)∧∀j,j < 8→C2I a n i j) ?_ ⟨fun q=>⟨fun w=> by omega,q⟩,fun q=> q.2⟩;refine s2.and (fun _=>?_) (if_neg nt);rw[if_pos rfl];exact hT.round rfl rfl
 ·rw[if_neg c,ixI_nat hi,ob]
  refine LTells.iff (P:=Dg a i=0∧Lv a i=0∧EqE (Df a i) []∧R5 (Dg a i)∧R5 (Lv a i)∧SmE a.Prime a.Size (Df a i)∧∀j,j < 8→C2I a n i j) ?_ ⟨fun q=>⟨fun w=> by omega,fun _=> q⟩,fun q=> q.2 (by omega)⟩;refine .iteP fun _=> .iteP fun _=> s3.and (fun _=>?_) (if_neg nt);rw[if_pos rfl];refine r1.and (fun q1=>?_) (if_neg nt);rw[if_pos rfl];refine r2.and (fun q2=>?_) (if_neg nt);rw[if_pos rfl];refine s1.and (fun _=>?_) (if_neg nt);rw[if_pos rfl];exact hT.round rfl rfl
def FormI(a:GDga):Prop:=IsP a.Prime∧(1≤a.Size∧a.Size≤8)∧(∀i,i < 8→C1I a a.Size.toNat i)∧Dg a 0=0∧Lv a 0=0
theorem end2(x y:Int):Tells (if x=0 then some (decide (y=0))else some false) (x=0∧y=0):=by
 by_cases c:x=0
 ·rw[if_pos c]; exact(Tells.dec rfl).iff ⟨fun q=>⟨c,q⟩,fun q=> q.2⟩
 ·rw[if_neg c]; exact .of_false rfl fun q=> c q.1
theorem F176_tells{a:GDga}(hf:By 64 a.Diff.val)(ht:By 512 a.Table.val):Tells (F176 a) (FormI a):=by
 unfold F176 FormI;refine(F67_tells a.Prime).andB (fun _=>?_) (if_neg nt);rw[if_pos rfl];refine(Tells.dec (F56_eq a.Size 1 8)).andB (fun hs=>?_) (if_neg nt);rw[if_pos rfl];refine(forR_unit 8 rfl (by decide) (C1I a a.Size.toNat) (fun i hi _=> F176_1_tells hf ht (by omega) (by omega) hi) rfl).andB (fun _=>?_) rfl;exact end2 _ _
def C2S(a:GDga)(n i j:Nat):Prop:=SmE a.Prime a.Size (Tb a i j)∧((¬i < n∨n≤j)→EqE (Tb a i j) [])
def C1S(a:GDga)(n i:Nat):Prop:=(i < n→SmE a.Prime a.Size (Df a i)∧R5 (Dg a i)∧R5 (Lv a i)∧(0 < i→¬Dg a i < Dg a (i - 1))∧∀j,j < 8→C2S a n i j)∧
 (¬i < n→Dg a i=0∧Lv a i=0∧EqE (Df a i) []∧SmE a.Prime a.Size (Df a i)∧R5 (Dg a i)∧R5 (Lv a i)∧∀j,j < 8→C2S a n i j)
theorem F197_2_tells{a:GDga}(ht:By 512 a.Table.val){n:Nat}(hn:a.Size=n){i:Nat}(hi:i < 8):UTells (forR 0 8 (F197_2_B a i) (F197_2_D a i) ()) (∀j,j < 8→C2S a n i j):=by
 refine forR_unit 8 rfl (by decide) (C2S a n i) (fun j hj _=>?_) rfl;have hT:By 8 (Tb a i j):=by_arP ht (by omega);have s1:=F181_tells (p:=a.Prime) (s:=a.Size) hT;have s3:=arE_tells hT (by_nil 8);unfold F197_2_B C2S;rw[ixI_nat hi,ob,ixI_nat hj,ob];refine(s1.and (fun _=>?_) (if_neg nt));rw[if_pos rfl];by_cases c1:a.Size≤(i:Int)
 ·rw[if_pos c1]
  exact(LTells.last s3 (if_pos rfl) (if_neg nt)).iff ⟨fun q _=> q,fun q=> q (.inl (by omega))⟩
 ·rw[if_neg c1]
  by_cases c2:a.Size≤(j:Int)
  ·rw[if_pos c2]
   exact(LTells.last s3 (if_pos rfl) (if_neg nt)).iff ⟨fun q _=> q,fun q=> q (.inr (by omega))⟩
  ·rw[if_neg c2]
   exact .t rfl fun w=> by omega
theorem F197_1_tells{a:GDga}(hf:By 64 a.Diff.val)(ht:By 512 a.Table.val){n:Nat}(hn:a.Size=n)(h8:n≤8){i:Nat}(hi:i < 8):LTells (F197_1_B a i ()) (C1S a n i):=by
 have hT:=F197_2_tells ht hn hi;have hD:By 8 (Df a i):=by_arP hf (by omega);have s1:=F181_tells (p:=a.Prime) (s:=a.Size) hD;have s3:=arE_tells hD (by_nil 8);have r1:Tells (F54 (a.Degrees.val.getD i 0) 0 5) (R5 (Dg a i)):=Tells.dec (P:=0≤_∧_≤5) (F54_eq _ _ _);have r2:Tells (F54 (a.Levels.val.getD i 0) 0 5) (R5 (Lv a i)):=Tells.dec (P:=0≤_∧_≤5) (F54_eq _ _ _);unfold F197_1_B;by_cases c:a.Size≤(i:Int)
 ·rw[if_pos c,ixI_nat hi,ob]
  refine LTells.iff (P:=Dg a i=0∧Lv a i=0∧EqE (Df a i) []∧SmE a.Prime a.Size (Df a i)∧R5 (Dg a i)∧R5 (Lv a i)∧∀j,j < 8→C2S a n i j) ?_ ⟨fun q=>⟨fun w=> by omega,fun _=> q⟩,fun q=> q.2 (by omega)⟩;refine .iteP fun _=> .iteP fun _=> s3.and (fun _=>?_) (if_neg nt);rw[if_pos rfl];refine s1.and (fun _=>?_) (if_neg nt);rw[if_pos rfl];refine r1.and (fun q1=>?_) (if_neg nt);rw[if_pos rfl];refine r2.and (fun q2=>?_) (if_neg nt);rw[if_pos rfl];by_cases c0:0 < (i:Int)
  ·rw[if_pos c0,if_neg (by omega)]; exact hT.round rfl rfl
  ·rw[if_neg c0]; exact hT.round rfl rfl
 ·rw[if_neg c,ixI_nat hi,ob]
  refine LTells.iff (P:=SmE a.Prime a.Size (Df a i)∧R5 (Dg a i)∧R5 (Lv a i)∧(0 < i→¬Dg a i < Dg a (i - 1))∧∀j,j < 8→C2S a n i j) ?_ ⟨fun q=>⟨fun _=> q,fun w=> by omega⟩,fun q=> q.1 (by omega)⟩;refine s1.and (fun _=>?_) (if_neg nt);rw[if_pos rfl];refine r1.and (fun q1=>?_) (if_neg nt);rw[if_pos rfl];refine r2.and (fun q2=>?_) (if_neg nt);rw[if_pos rfl];by_cases c0:0 < (i:Int)
  ·rw[if_pos c0,if_pos (by omega),chk_ok (by omega) (by omega),ob,show((i:Int) - 1)=((i - 1:Nat):Int) by omega,ixI_nat (by omega),ob]
   refine LTells.iff (LTells.nite (P:=∀j,j < 8→C2S a n i j) fun _=> hT.round rfl rfl) ⟨fun q=>⟨fun _=> q.1,q.2⟩,fun q=>⟨q.1 (by omega),q.2⟩⟩
  ·rw[if_neg c0]
   exact(hT.round rfl rfl).iff ⟨fun q=>⟨fun w=> by omega,q⟩,fun q=> q.2⟩
def C4S(a:GDga)(n i:Nat):Prop:=LiE a n (Df a i) (Dg a i - 1) (Lv a i)∧∀j,j < n→LiE a n (Tb a i j) (Dg a i+Dg a j) (Lv a i+Lv a j)
theorem F197_3_tells{a:GDga}{n:Nat}(hn:a.Size=n)(h8:n≤8)(hr:∀i,i < 8→R5 (Dg a i)∧R5 (Lv a i)){i:Nat}(hi:i < n):LTells (F197_3_B a i ()) (C4S a n i):=by
 have hi8:i < 8:=by omega
 have q1:=hr i hi8;simp only[R5,Dg,Lv]at q1;unfold F197_3_B C4S;rw[ixI_nat hi8,ob,chk_ok (by omega) (by omega),ob];refine(F210_tells hn h8 (Df a i) (a.Degrees.val.getD i 0 - 1) (a.Levels.val.getD i 0)).and (fun _=>?_) (if_neg nt);rw[if_pos rfl];refine(forR_unit n hn (by omega) (fun j=> LiE a n (Tb a i j) (Dg a i+Dg a j) (Lv a i+Lv a j)) (fun j hj _=>?_) rfl).round rfl rfl;have hj8:j < 8:=by omega
 have q2:=hr j hj8;simp only[R5,Dg,Lv]at q2;unfold F197_4_B;rw[ixI_nat hi8,ob,ixI_nat hj8,ob,chk_ok (by omega) (by omega),ob,chk_ok (by omega) (by omega),ob];exact .last (F210_tells hn h8 (Tb a i j) _ _) (if_pos rfl) (if_neg nt)
def FormS(a:GDga):Prop:=IsP a.Prime∧(1≤a.Size∧a.Size≤8)∧(∀i,i < 8→C1S a a.Size.toNat i)∧(∀i,i < a.Size.toNat→C4S a a.Size.toNat i)∧Dg a 0=0∧Lv a 0=0
theorem C1S.rng{a:GDga}{n i:Nat}(h:C1S a n i):R5 (Dg a i)∧R5 (Lv a i):=by
 by_cases c:i < n
 ·exact⟨(h.1 c).2.1,(h.1 c).2.2.1⟩
 ·exact⟨(h.2 c).2.2.2.2.1,(h.2 c).2.2.2.2.2.1⟩
theorem F197_tells{a:GDga}(hf:By 64 a.Diff.val)(ht:By 512 a.Table.val):Tells (F197 a) (FormS a):=by
 unfold F197 FormS;refine(F78_tells a.Prime).andB (fun _=>?_) (if_neg nt);rw[if_pos rfl];refine(Tells.dec (F54_eq a.Size 1 8)).andB (fun hs=>?_) (if_neg nt);rw[if_pos rfl];refine(forR_unit 8 rfl (by decide) (C1S a a.Size.toNat) (fun i hi _=> F197_1_tells hf ht (by omega) (by omega) hi) rfl).andB (fun h1=>?_) rfl;refine(forR_unit a.Size.toNat (by omega) (by omega) (C4S a a.Size.toNat) (fun i hi _=> F197_3_tells (by omega) (by omega) (fun i hi=>(h1 i hi).rng) hi) rfl).andB (fun _=>?_) rfl;exact end2 _ _
theorem LiE.cut{a:GDga}{n:Nat}(hn:a.Size=n)(h8:n≤8){u:List Int}{d l:Int}(hs:SmE a.Prime a.Size u):LiE a 8 u d l↔LiE a n u d l:=
 ⟨fun h k hk=> h k (by omega),fun h k hk hu=> by
  by_cases c:k < n
  ·exact h k c hu
  ·exact absurd ((hs k hk).2 (by omega)) hu⟩
theorem wrap_small{x:Int}(h0:0≤x)(h1:x≤100):Go.IntKind.wrap .i64 x=x:=wrap_i64 (by omega) (by omega)
theorem LiE.zero{a:GDga}{n:Nat}{u:List Int}{d l:Int}(hn:n≤8)(h:EqE u []):LiE a n u d l:=fun k hk hu=> absurd (by have:=h k (by omega); simpa using this) hu
theorem form_iff{a:GDga}:FormI a↔FormS a:=by
 unfold FormI FormS;constructor
 ·rintro⟨hp,hs,h1,h0⟩
  have hr:∀i,i < 8→R5 (Dg a i)∧R5 (Lv a i):=fun i hi=> by
   by_cases c:i < a.Size.toNat
   ·exact⟨((h1 i hi).1 c).1,((h1 i hi).1 c).2.1⟩
   ·exact⟨((h1 i hi).2 c).2.2.2.1,((h1 i hi).2 c).2.2.2.2.1⟩
  refine⟨hp,hs,fun i hi=>⟨fun c=>?_,fun c=>?_⟩,fun i hi=>?_,h0⟩
  ·obtain⟨a1,a2,a3,a4,a5,a6⟩:=(h1 i hi).1 c
   exact⟨a3,a1,a2,a4,fun j hj=>⟨(a6 j hj).1,(a6 j hj).2.1⟩⟩
  ·obtain⟨a1,a2,a3,a4,a5,a6,a7⟩:=(h1 i hi).2 c
   exact⟨a1,a2,a3,a6,a4,a5,fun j hj=>⟨(a7 j hj).1,(a7 j hj).2.1⟩⟩
  ·obtain⟨a1,a2,a3,a4,a5,a6⟩:=(h1 i (by omega)).1 hi
   refine⟨(LiE.cut (by omega) (by omega) a3).1 a5,fun j hj=>?_⟩;obtain⟨b1,b2,b3⟩:=a6 j (by omega);have r:=hr j (by omega);simp only[R5]at a1 a2 r;rw[wrap_small (by omega) (by omega),wrap_small (by omega) (by omega)]at b3;exact(LiE.cut (by omega) (by omega) b1).1 b3
 ·rintro⟨hp,hs,h1,h4,h0⟩
  have hr:∀i,i < 8→R5 (Dg a i)∧R5 (Lv a i):=fun i hi=>(h1 i hi).rng;have c2:∀i j,i < 8→j < 8→C2S a a.Size.toNat i j→C2I a a.Size.toNat i j:=fun i j hi hj h=> by
   refine⟨h.1,h.2,?_⟩;have r1:=hr i hi;have r2:=hr j hj;simp only[R5]at r1 r2;rw[wrap_small (by omega) (by omega),wrap_small (by omega) (by omega)];by_cases c:i < a.Size.toNat∧j < a.Size.toNat
   ·exact(LiE.cut (by omega) (by omega) h.1).2 ((h4 i c.1).2 j c.2)
   ·exact .zero (by omega) (h.2 (by omega))
  refine⟨hp,hs,fun i hi=>⟨fun c=>?_,fun c=>?_⟩,h0⟩
  ·obtain⟨a1,a2,a3,a4,a5⟩:=(h1 i hi).1 c
   exact⟨a2,a3,a1,a4,(LiE.cut (by omega) (by omega) a1).2 (h4 i c).1,fun j hj=> c2 i j hi hj (a5 j hj)⟩
  ·obtain⟨a1,a2,a3,a4,a5,a6,a7⟩:=(h1 i hi).2 c
   exact⟨a1,a2,a3,a5,a6,a4,fun j hj=> c2 i j hi hj (a7 j hj)⟩
theorem wrap_u8{x:Int}(h0:0≤x)(h1:x≤255):Go.IntKind.wrap .u8 x=x:=by
 unfold Go.IntKind.wrap;simp[Go.IntKind.bits,Go.IntKind.signed];omega
theorem norm_mod{p c:Int}(hp:2≤p∧p≤7): -p < c.tmod p∧c.tmod p < p∧(c.tmod p+p).tmod p=c% p:=by
 have h1:c.tmod p < p:=Int.tmod_lt_of_pos c (by omega);have h2:(-c).tmod p < p:=Int.tmod_lt_of_pos (-c) (by omega);rw[Int.neg_tmod]at h2;refine⟨by omega,h1,?_⟩;rw[Int.tmod_eq_emod_of_nonneg (by omega),Int.add_emod_right];exact Cg.emod tmod_cg
def Mo(p:Int)(u:List Int):Prop:=∀k,k < 8→0≤u.getD k 0∧u.getD k 0 < p
theorem Mo.nil{p:Int}(hp:0 < p):Mo p []:=fun k _=> by simpa using hp
theorem F70_eq{a:GDga}(hp:2≤a.Prime∧a.Prime≤7){u v:List Int}(hu:Mo a.Prime u)(hv:By 8 v){c:Int}(hc: -1000≤c∧c≤1000):
  ∃w,F70 a ⟨u⟩ ⟨v⟩ c=some ⟨w⟩∧∀k,k < 8→w.getD k 0=(u.getD k 0+c*v.getD k 0)% a.Prime:=by
 obtain⟨hm0,hm3,hm⟩:=norm_mod (c:=c) hp;have hm1:=Int.emod_nonneg c (show a.Prime≠0 by omega);have hm2:=Int.emod_lt_of_pos c (show 0 < a.Prime by omega);obtain⟨w,h1,h2⟩:=forR_inv (B:=F70_1_B a ⟨v⟩ (c% a.Prime)) (D:=F70_1_D a ⟨v⟩ (c% a.Prime)) (hi:=8) 8 rfl (by decide) (fun i o=>∀k,k < 8→o.getD k 0=if k < i then(u.getD k 0+c*v.getD k 0)% a.Prime else u.getD k 0) (fun w=>∀k,k < 8→w.getD k 0=(u.getD k 0+c*v.getD k 0)% a.Prime) (s:=u) (fun k hk=> by rw[if_neg (by omega)]) (fun i o hi ho=> by
  have e:=ho i hi;rw[if_neg (by omega)]at e;have u1:=hu i hi;have v1:=hv i hi;have m1:0≤c% a.Prime*v.getD i 0:=Int.mul_nonneg hm1 v1.1;have m2:c% a.Prime*v.getD i 0≤7*255:=Int.mul_le_mul (by omega) v1.2 v1.1 (by omega);have n1:=Int.emod_nonneg (u.getD i 0+c% a.Prime*v.getD i 0) (show a.Prime≠0 by omega);have n2:=Int.emod_lt_of_pos (u.getD i 0+c% a.Prime*v.getD i 0) (show 0 < a.Prime by omega);refine .inl ⟨arW 8 o i ((u.getD i 0+c% a.Prime*v.getD i 0)% a.Prime),?_,fun k hk=>?_⟩
  ·unfold F70_1_B
   rw[ixI_nat hi,ob,e,chk_ok (by omega) (by omega),ob];simp only;rw[chk_ok (by omega) (by omega),ob,chk_ok (by omega) (by omega),ob,chk_ok (by omega) (by omega),ob,remI_ok (by omega),ob,Int.tmod_eq_emod_of_nonneg (by omega),wrap_u8 n1 (by omega),ob]
  ·rw[arW_get hk]
   by_cases hk2:k=i
   ·rw[if_pos hk2,if_pos (by omega),hk2,Int.add_emod,Int.mul_emod,Int.emod_emod_of_dvd _ (Int.dvd_refl _),←Int.mul_emod,←Int.add_emod]
   ·rw[if_neg hk2,ho k hk]
    by_cases hk3:k < i
    ·rw[if_pos hk3,if_pos (by omega)]
    ·rw[if_neg hk3,if_neg (by omega)]) (fun o ho=>⟨o,rfl,fun k hk=> by rw[ho k hk,if_pos hk]⟩)
 refine⟨w,?_,h2⟩;unfold F70;rw[remI_ok (by omega),ob,chk_ok (by omega) (by omega),ob,remI_ok (by omega),ob,hm,h1,ob]
theorem F105_eq{p:Int}(hp:2≤p∧p≤7){u v:List Int}(hu:Mo p u)(hv:By 8 v){c:Int}(hc: -1000≤c∧c≤1000):
  ∃w,F105 p ⟨u⟩ ⟨v⟩ c=some ⟨w⟩∧∀k,k < 8→w.getD k 0=(u.getD k 0+c*v.getD k 0)% p:=by
 obtain⟨w,h1,h2⟩:=forR_inv (B:=F105_1_B p ⟨v⟩ c) (D:=F105_1_D p ⟨v⟩ c) (hi:=8) 8 rfl (by decide) (fun i o=>∀k,k < 8→o.getD k 0=if k < i then(u.getD k 0+c*v.getD k 0)% p else u.getD k 0) (fun w=>∀k,k < 8→w.getD k 0=(u.getD k 0+c*v.getD k 0)% p) (s:=u) (fun k hk=> by rw[if_neg (by omega)]) (fun i o hi ho=> by
  have e:=ho i hi;rw[if_neg (by omega)]at e;have u1:=hu i hi;have v1:=hv i hi;have m1: -255000≤c*v.getD i 0∧c*v.getD i 0≤255000:=by
   have a1:c*v.getD i 0≤1000*v.getD i 0:=Int.mul_le_mul_of_nonneg_right hc.2 v1.1;have a2:(-1000)*v.getD i 0≤c*v.getD i 0:=Int.mul_le_mul_of_nonneg_right hc.1 v1.1;omega
  have n1:=Int.emod_nonneg (u.getD i 0+c*v.getD i 0) (show p≠0 by omega);have n2:=Int.emod_lt_of_pos (u.getD i 0+c*v.getD i 0) (show 0 < p by omega);refine .inl ⟨arW 8 o i ((u.getD i 0+c*v.getD i 0)% p),?_,fun k hk=>?_⟩
  ·unfold F105_1_B
   rw[ixI_nat hi,ob,e,chk_ok (by omega) (by omega),ob];simp only;rw[chk_ok (by omega) (by omega),ob,chk_ok (by omega) (by omega),ob,chk_ok (by omega) (by omega),ob,F127_eq hp,ob,wrap_u8 n1 (by omega),ob]
  ·rw[arW_get hk]
   by_cases hk2:k=i
   ·rw[if_pos hk2,if_pos (by omega),hk2]
   ·rw[if_neg hk2,ho k hk]
    by_cases hk3:k < i
    ·rw[if_pos hk3,if_pos (by omega)]
    ·rw[if_neg hk3,if_neg (by omega)]) (fun o ho=>⟨o,rfl,fun k hk=> by rw[ho k hk,if_pos hk]⟩)
 refine⟨w,?_,h2⟩;unfold F105;rw[h1,ob]
def sumN(f:Nat→Int):Nat→Int
 |0=> 0
 |n+1=> sumN f n+f n
theorem sumN_ext{f g:Nat→Int}:∀ {n:Nat},(∀i,i < n→f i=g i)→sumN f n=sumN g n
 |0,_=> rfl
 |n+1,h=> by rw[sumN,sumN,sumN_ext fun i hi=> h i (by omega),h n (by omega)]
theorem sumN_cut{f:Nat→Int}{n:Nat}:∀ {m:Nat},n≤m→(∀i,n≤i→i < m→f i=0)→sumN f m=sumN f n
 |0,h,_=> by rw[show n=0 by omega]
 |m+1,h,h0=> by
  by_cases e:n=m+1
  ·rw[e]
  ·rw[sumN,sumN_cut (show n≤m by omega) fun i a b=> h0 i a (by omega),h0 m (by omega) (by omega),Int.add_zero]
theorem sumN_zero{f:Nat→Int}{n:Nat}(h:∀i,i < n→f i=0):sumN f n=0:=sumN_cut (n:=0) (Nat.zero_le _) fun i _ hi=> h i hi
theorem sumN_one{f:Nat→Int}{n j:Nat}(hj:j < n)(h:∀i,i < n→i≠j→f i=0):sumN f n=f j:=by
 rw[sumN_cut (n:=j+1) (by omega) fun i a b=> h i b (by omega),sumN,sumN_zero fun i hi=> h i (by omega) (by omega),Int.zero_add]
theorem acc_loop{B:Int→List Int→Option (List Int⊕List Int)}{D:Int→List Int→Option (List Int)}{m:Nat}{hi p:Int}(hm:hi=m)(h8:m≤8)(hp:0 < p)(t:Nat→Nat→Int){b:List Int}(hb:Mo p b)
  (hB:∀ (j:Nat) o,j < m→Mo p o→∃w,B j o=some (.inl w)∧∀k,k < 8→w.getD k 0=(o.getD k 0+t j k)% p) (hD:∀o,D m o=some o):
  ∃w,forR 0 hi B D b=some w∧Mo p w∧∀k,k < 8→w.getD k 0=(b.getD k 0+sumN (fun j=> t j k) m)% p:=by
 obtain⟨w,h1,h2,h3⟩:=forR_inv (B:=B) (D:=D) (hi:=hi) m hm (by omega) (fun i o=> Mo p o∧∀k,k < 8→o.getD k 0=(b.getD k 0+sumN (fun j=> t j k) i)% p) (fun w=> Mo p w∧∀k,k < 8→w.getD k 0=(b.getD k 0+sumN (fun j=> t j k) m)% p) (s:=b) ⟨hb,fun k hk=> by
   rw[sumN,Int.add_zero,Int.emod_eq_of_lt (hb k hk).1 (hb k hk).2]⟩ (fun i o hi ho=> by
  obtain⟨w,w1,w2⟩:=hB i o hi ho.1;refine .inl ⟨w,w1,fun k hk=>?_,fun k hk=>?_⟩
  ·rw[w2 k hk]; exact⟨Int.emod_nonneg _ (by omega),Int.emod_lt_of_pos _ hp⟩
  ·rw[w2 k hk,ho.2 k hk,sumN,←Int.add_assoc,Int.emod_add_emod]) (fun o ho=>⟨o,hD o,ho⟩)
 exact⟨w,h1,h2,h3⟩
def mulF(a:GDga)(n:Nat)(u v:List Int)(k:Nat):Int:=sumN (fun i=> sumN (fun j=> u.getD i 0*v.getD j 0*(Tb a i j).getD k 0) n) n% a.Prime
def difF(a:GDga)(n:Nat)(u:List Int)(k:Nat):Int:=sumN (fun i=> u.getD i 0*(Df a i).getD k 0) n% a.Prime
theorem mod_keep{o p:Int}{k:Nat}{w:List Int}(h:0≤w.getD k 0∧w.getD k 0 < p)(hz:o=0):w.getD k 0=(w.getD k 0+o)% p:=by
 rw[hz,Int.add_zero,Int.emod_eq_of_lt h.1 h.2]
theorem mul6{p x y:Int}(hp:p≤7)(hx:0≤x∧x < p)(hy:0≤y∧y < p):0≤x*y∧x*y≤36:=by
 have h1:x*y≤6*6:=Int.mul_le_mul (by omega) (by omega) hy.1 (by omega);exact⟨Int.mul_nonneg hx.1 hy.1,by omega⟩
theorem F177_eq{a:GDga}(hp:2≤a.Prime∧a.Prime≤7)(ht:By 512 a.Table.val){u v:List Int}(hu:Mo a.Prime u)(hv:Mo a.Prime v):
  ∃w,F177 a ⟨u⟩ ⟨v⟩=some ⟨w⟩∧Mo a.Prime w∧∀k,k < 8→w.getD k 0=mulF a 8 u v k:=by
 obtain⟨w,h1,h2,h3⟩:=acc_loop (B:=F177_1_B a ⟨u⟩ ⟨v⟩) (D:=F177_1_D a ⟨u⟩ ⟨v⟩) (m:=8) (hi:=8) (p:=a.Prime) rfl (by omega) (by omega) (fun i k=> sumN (fun j=> u.getD i 0*v.getD j 0*(Tb a i j).getD k 0) 8) (b:=[]) (.nil (by omega)) (fun i o hi ho=> by
  obtain⟨w,g1,g2,g3⟩:=acc_loop (B:=F177_2_B a ⟨u⟩ ⟨v⟩ i i) (D:=F177_2_D a ⟨u⟩ ⟨v⟩ i i) (m:=8) (hi:=8) (p:=a.Prime) rfl (by omega) (by omega) (fun j k=> u.getD i 0*v.getD j 0*(Tb a i j).getD k 0) ho (fun j o hj ho=> by
   have u1:=hu i hi;have v1:=hv j hj;have uv:=mul6 (by omega) u1 v1;have hT:By 8 (Tb a i j):=by_arP ht (by omega);unfold F177_2_B;rw[ixI_nat hj,ob];simp only;by_cases c1:u.getD i 0=0
   ·rw[if_pos c1]; exact⟨o,rfl,fun k hk=> mod_keep (ho k hk) (by rw[c1,Int.zero_mul,Int.zero_mul])⟩
   rw[if_neg c1];by_cases c2:v.getD j 0=0
   ·rw[if_pos c2]; exact⟨o,rfl,fun k hk=> mod_keep (ho k hk) (by rw[c2,Int.mul_zero,Int.zero_mul])⟩
   obtain⟨w,w1,w2⟩:=F70_eq hp ho hT (c:=u.getD i 0*v.getD j 0) (by omega);have w1':F70 a ⟨o⟩ ⟨arP a.Table.val (i*64+j*8) 8⟩ (u.getD i 0*v.getD j 0)=some ⟨w⟩:=w1;rw[if_neg c2,ixI_nat hi,ob,chk_ok (by omega) (by omega),ob,chk_ok (by omega) (by omega),ob,chk_ok (by omega) (by omega),ob,w1',ob];exact⟨w,rfl,w2⟩) (fun o=> rfl)
  unfold F177_1_B;rw[ixI_nat hi,ob,g1,ob];exact⟨w,rfl,g3⟩) (fun o=> rfl)
 refine⟨w,?_,h2,fun k hk=>?_⟩
 ·unfold F177; rw[h1,ob]
 ·rw[h3 k hk]; simp[mulF]
theorem F199_eq{a:GDga}(hp:2≤a.Prime∧a.Prime≤7)(ht:By 512 a.Table.val){n:Nat}(hn:a.Size=n)(h8:n≤8){u v:List Int}(hu:Mo a.Prime u)(hv:Mo a.Prime v):
  ∃w,F199 a ⟨u⟩ ⟨v⟩=some ⟨w⟩∧Mo a.Prime w∧∀k,k < 8→w.getD k 0=mulF a n u v k:=by
 obtain⟨w,h1,h2,h3⟩:=acc_loop (B:=F199_1_B a ⟨u⟩ ⟨v⟩) (D:=F199_1_D a ⟨u⟩ ⟨v⟩) (m:=n) (hi:=a.Size) (p:=a.Prime) hn h8 (by omega) (fun i k=> sumN (fun j=> u.getD i 0*v.getD j 0*(Tb a i j).getD k 0) n) (b:=[]) (.nil (by omega)) (fun i o hi ho=> by
  obtain⟨w,g1,g2,g3⟩:=acc_loop (B:=F199_2_B a ⟨u⟩ ⟨v⟩ i) (D:=F199_2_D a ⟨u⟩ ⟨v⟩ i) (m:=n) (hi:=a.Size) (p:=a.Prime) hn h8 (by omega) (fun j k=> u.getD i 0*v.getD j 0*(Tb a i j).getD k 0) ho (fun j o hj ho=> by
   have u1:=hu i (by omega);have v1:=hv j (by omega);have uv:=mul6 (by omega) u1 v1;have hT:By 8 (Tb a i j):=by_arP ht (by omega);unfold F199_2_B;rw[ixI_nat (show i < 8 by omega),ob];simp only;by_cases c1:u.getD i 0=0
   ·rw[if_pos c1]; exact⟨o,rfl,fun k hk=> mod_keep (ho k hk) (by rw[c1,Int.zero_mul,Int.zero_mul])⟩
   rw[if_neg c1,ixI_nat (show j < 8 by omega),ob];by_cases c2:v.getD j 0=0
   ·rw[if_pos c2]; exact⟨o,rfl,fun k hk=> mod_keep (ho k hk) (by rw[c2,Int.mul_zero,Int.zero_mul])⟩
   obtain⟨w,w1,w2⟩:=F105_eq hp ho hT (c:=u.getD i 0*v.getD j 0) (by omega);have w1':F105 a.Prime ⟨o⟩ ⟨arP a.Table.val (i*64+j*8) 8⟩ (u.getD i 0*v.getD j 0)=some ⟨w⟩:=w1;rw[if_neg c2,chk_ok (by omega) (by omega),ob,chk_ok (by omega) (by omega),ob,chk_ok (by omega) (by omega),ob,w1',ob];exact⟨w,rfl,w2⟩) (fun o=> rfl)
  unfold F199_1_B;rw[g1,ob];exact⟨w,rfl,g3⟩) (fun o=> rfl)
 refine⟨w,?_,h2,fun k hk=>?_⟩
 ·unfold F199; rw[h1,ob]
 ·rw[h3 k hk]; simp[mulF]
theorem F178_eq{a:GDga}(hp:2≤a.Prime∧a.Prime≤7)(hf:By 64 a.Diff.val){u:List Int}(hu:Mo a.Prime u):
  ∃w,F178 a ⟨u⟩=some ⟨w⟩∧Mo a.Prime w∧∀k,k < 8→w.getD k 0=difF a 8 u k:=by
 obtain⟨w,h1,h2,h3⟩:=acc_loop (B:=F178_1_B a ⟨u⟩) (D:=F178_1_D a ⟨u⟩) (m:=8) (hi:=8) (p:=a.Prime) rfl (by omega) (by omega) (fun i k=> u.getD i 0*(Df a i).getD k 0) (b:=[]) (.nil (by omega)) (fun i o hi ho=> by
  have u1:=hu i hi;have hT:By 8 (Df a i):=by_arP hf (by omega);obtain⟨w,w1,w2⟩:=F70_eq hp ho hT (c:=u.getD i 0) (by omega);have w1':F70 a ⟨o⟩ ⟨arP a.Diff.val (i*8) 8⟩ (u.getD i 0)=some ⟨w⟩:=w1;unfold F178_1_B;rw[ixI_nat hi,ob];simp only;rw[chk_ok (by omega) (by omega),ob,w1',ob];exact⟨w,rfl,w2⟩) (fun o=> rfl)
 refine⟨w,?_,h2,fun k hk=>?_⟩
 ·unfold F178; rw[h1,ob]
 ·rw[h3 k hk]; simp[difF]
theorem F198_eq{a:GDga}(hp:2≤a.Prime∧a.Prime≤7)(hf:By 64 a.Diff.val){n:Nat}(hn:a.Size=n)(h8:n≤8){u:List Int}(hu:Mo a.Prime u):
  ∃w,F198 a ⟨u⟩=some ⟨w⟩∧Mo a.Prime w∧∀k,k < 8→w.getD k 0=difF a n u k:=by
 obtain⟨w,h1,h2,h3⟩:=acc_loop (B:=F198_1_B a ⟨u⟩) (D:=F198_1_D a ⟨u⟩) (m:=n) (hi:=a.Size) (p:=a.Prime) hn h8 (by omega) (fun i k=> u.getD i 0*(Df a i).getD k 0) (b:=[]) (.nil (by omega)) (fun i o hi ho=> by
  have u1:=hu i (by omega);have hT:By 8 (Df a i):=by_arP hf (by omega);obtain⟨w,w1,w2⟩:=F105_eq hp ho hT (c:=u.getD i 0) (by omega);have w1':F105 a.Prime ⟨o⟩ ⟨arP a.Diff.val (i*8) 8⟩ (u.getD i 0)=some ⟨w⟩:=w1;unfold F198_1_B;rw[ixI_nat (show i < 8 by omega),ob];simp only;rw[chk_ok (by omega) (by omega),ob,w1',ob];exact⟨w,rfl,w2⟩) (fun o=> rfl)
 refine⟨w,?_,h2,fun k hk=>?_⟩
 ·unfold F198; rw[h1,ob]
 ·rw[h3 k hk]; simp[difF]
def uE(i:Nat):List Int:=arW 8 [] i 1
theorem uE_get{i k:Nat}(hk:k < 8):(uE i).getD k 0=if k=i then 1 else 0:=by
 unfold uE; rw[arW_get hk]; simp
theorem F69_eq{a:GDga}{i:Nat}(hi:i < 8):F69 a i=some ⟨uE i⟩:=by
 unfold F69; rw[ixI_nat hi,ob,ob]; rfl
theorem F104_eq{i:Nat}(hi:i < 8):F104 i=some ⟨uE i⟩:=by
 unfold F104; rw[ixI_nat hi,ob,ob]; rfl
theorem uE_mo{p:Int}(hp:2≤p)(i:Nat):Mo p (uE i):=fun k hk=> by
 rw[uE_get hk]; split <;> omega
theorem mo_by{p:Int}(hp:p≤7){u:List Int}(h:Mo p u):By 8 u:=fun k hk=> by have:=h k hk; omega
theorem sm_mo{p s:Int}{u:List Int}(hb:By 8 u)(h:SmE p s u):Mo p u:=fun k hk=>⟨(hb k hk).1,(h k hk).1⟩
theorem mul_cut{a:GDga}{n:Nat}(h8:n≤8){u v:List Int}(hu:∀k,n≤k→k < 8→u.getD k 0=0)(hv:∀k,n≤k→k < 8→v.getD k 0=0)(k:Nat):mulF a 8 u v k=mulF a n u v k:=by
 unfold mulF;rw[sumN_cut h8 fun i h1 h2=> sumN_zero fun j _=> by rw[hu i h1 h2,Int.zero_mul,Int.zero_mul]];rw[sumN_ext fun i hi=> sumN_cut h8 fun j h1 h2=> by rw[hv j h1 h2,Int.mul_zero,Int.zero_mul]]
theorem dif_cut{a:GDga}{n:Nat}(h8:n≤8){u:List Int}(hu:∀k,n≤k→k < 8→u.getD k 0=0)(k:Nat):difF a 8 u k=difF a n u k:=by
 unfold difF;rw[sumN_cut h8 fun i h1 h2=> by rw[hu i h1 h2,Int.zero_mul]]
theorem sum_units{a:GDga}{i j:Nat}(hi:i < 8)(hj:j < 8)(k:Nat):mulF a 8 (uE i) (uE j) k=(Tb a i j).getD k 0% a.Prime:=by
 unfold mulF;rw[sumN_one hi fun i' h1 h2=> sumN_zero fun j' _=> by rw[uE_get h1,if_neg h2,Int.zero_mul,Int.zero_mul]];rw[sumN_one hj fun j' h1 h2=> by rw[uE_get (i:=j) h1,if_neg h2,Int.mul_zero,Int.zero_mul]];rw[uE_get hi,uE_get hj,if_pos rfl,if_pos rfl,Int.one_mul,Int.one_mul]
structure GoodG (a:GDga) (n:Nat):Prop where
 p:IsP a.Prime
 s:a.Size=n
 n1:1≤n
 n8:n≤8
 r:∀i,i < 8→R5 (Dg a i)∧R5 (Lv a i)
 out:∀i,n≤i→i < 8→Dg a i=0∧Lv a i=0
 mono:∀i,0 < i→i < n→Dg a (i - 1)≤Dg a i
 dm:∀i,i < 8→Mo a.Prime (Df a i)
 dz:∀i k,i < 8→n≤k→k < 8→(Df a i).getD k 0=0
 tm:∀i j,i < 8→j < 8→Mo a.Prime (Tb a i j)
 tz:∀i j k,i < 8→j < 8→n≤k→k < 8→(Tb a i j).getD k 0=0
 dl:∀i,i < n→LiE a 8 (Df a i) (Dg a i - 1) (Lv a i)
 z:Dg a 0=0∧Lv a 0=0
theorem FormI.good{a:GDga}(hf:By 64 a.Diff.val)(ht:By 512 a.Table.val)(h:FormI a):∃n,GoodG a n:=by
 obtain⟨hp,hs,h1,h0⟩:=h;have hr:∀i,i < 8→R5 (Dg a i)∧R5 (Lv a i):=fun i hi=> by
  by_cases c:i < a.Size.toNat
  ·exact⟨((h1 i hi).1 c).1,((h1 i hi).1 c).2.1⟩
  ·exact⟨((h1 i hi).2 c).2.2.2.1,((h1 i hi).2 c).2.2.2.2.1⟩
 have hd:∀i,i < 8→SmE a.Prime a.Size (Df a i):=fun i hi=> by
  by_cases c:i < a.Size.toNat
  ·exact((h1 i hi).1 c).2.2.1
  ·exact((h1 i hi).2 c).2.2.2.2.2.1
 have hc2:∀i,i < 8→∀j,j < 8→C2I a a.Size.toNat i j:=fun i hi=> by
  by_cases c:i < a.Size.toNat
  ·exact((h1 i hi).1 c).2.2.2.2.2
  ·exact((h1 i hi).2 c).2.2.2.2.2.2
 refine⟨a.Size.toNat,hp,by omega,by omega,by omega,hr,fun i h2 h3=>?_,fun i h2 h3=>?_,fun i hi=> sm_mo (by_arP hf (by omega)) (hd i hi),fun i k hi h2 h3=>(hd i hi k h3).2 (by omega),fun i j hi hj=> sm_mo (by_arP ht (by omega)) (hc2 i hi j hj).1,fun i j k hi hj h2 h3=>((hc2 i hi j hj).1 k h3).2 (by omega),fun i hi=>((h1 i (by omega)).1 hi).2.2.2.2.1,h0⟩
 ·have:=(h1 i h3).2 (by omega); exact⟨this.1,this.2.1⟩
 ·have:=((h1 i (by omega)).1 h3).2.2.2.1 h2; omega
def sg(a:GDga)(i:Nat):Int:=1 - Dg a i% 2*2
def Al3(a:GDga)(n i j l:Nat):Prop:=∀k,k < 8→mulF a n (Tb a i j) (uE l) k=mulF a n (uE i) (Tb a j l) k
def Al2(a:GDga)(n i j:Nat):Prop:=(∀k,k < 8→difF a n (Tb a i j) k=(mulF a n (Df a i) (uE j) k+sg a i*mulF a n (uE i) (Df a j) k)% a.Prime)∧∀l,l < n→Al3 a n i j l
def Al1(a:GDga)(n i:Nat):Prop:=EqE (Tb a 0 i) (uE i)∧EqE (Tb a i 0) (uE i)∧(∀k,k < 8→difF a n (Df a i) k=0)∧∀j,j < n→Al2 a n i j
theorem EqE.of{u v:List Int}{f g:Nat→Int}(hu:∀k,k < 8→u.getD k 0=f k)(hv:∀k,k < 8→v.getD k 0=g k):EqE u v↔∀k,k < 8→f k=g k:=
 ⟨fun h k hk=>(hu k hk).symm.trans ((h k hk).trans (hv k hk)),fun h k hk=>(hu k hk).trans ((h k hk).trans (hv k hk).symm)⟩
theorem iff_k{f g f' g':Nat→Int}(hf:∀k,k < 8→f k=f' k)(hg:∀k,k < 8→g k=g' k):(∀k,k < 8→f k=g k)↔∀k,k < 8→f' k=g' k:=
 ⟨fun h k hk=>(hf k hk).symm.trans ((h k hk).trans (hg k hk)),fun h k hk=>(hf k hk).trans ((h k hk).trans (hg k hk).symm)⟩
theorem sign_eq{x:Int}(h:R5 x):F179 x=some (1 - x% 2*2)∧ -1≤1 - x% 2*2∧1 - x% 2*2≤1:=by
 unfold R5 at h;unfold F179;have h1:=Int.emod_nonneg x (show(2:Int)≠0 by decide);have h2:=Int.emod_lt_of_pos x (show(0:Int) < 2 by decide);rw[remI_ok (by decide),ob,Int.tmod_eq_emod_of_nonneg h.1,chk_ok (by omega) (by omega),ob,chk_ok (by omega) (by omega),ob];exact⟨rfl,by omega,by omega⟩
theorem GoodG.pr{a:GDga}{n:Nat}(G:GoodG a n):2≤a.Prime∧a.Prime≤7:=G.p.range
theorem GoodG.uz{a:GDga}{n:Nat}(G:GoodG a n){i:Nat}(hi:i < n):∀k,n≤k→k < 8→(uE i).getD k 0=0:=fun k h1 h2=> by rw[uE_get h2,if_neg (by omega)]
theorem F157_3_tells{a:GDga}{n:Nat}(G:GoodG a n)(ht:By 512 a.Table.val){i j l:Nat}(hi:i < n)(hj:j < n)(hl:l < n)(x36 x45 x60:Ar .u8 8):LTells (F157_3_B a i ⟨uE i⟩ j x36 x45 x60 l ()) (Al3 a n i j l):=by
 have n8:=G.n8;have hp:=G.pr;obtain⟨w1,a1,a2,a3⟩:=F177_eq hp ht (G.tm i j (by omega) (by omega)) (uE_mo (by omega) l);obtain⟨w2,b1,b2,b3⟩:=F177_eq hp ht (uE_mo (by omega) i) (G.tm j l (by omega) (by omega));have a1':F177 a ⟨arP a.Table.val (i*64+j*8) 8⟩ ⟨uE l⟩=some ⟨w1⟩:=a1;have b1':F177 a ⟨uE i⟩ ⟨arP a.Table.val (j*64+l*8) 8⟩=some ⟨w2⟩:=b1;unfold F157_3_B;rw[ixI_nat (show i < 8 by omega),ob,ixI_nat (show j < 8 by omega),ob,F69_eq (show l < 8 by omega),ob,a1',ob,ixI_nat (show l < 8 by omega),ob,b1',ob];refine(LTells.last (arE_tells (mo_by hp.2 a2) (mo_by hp.2 b2)) (if_pos rfl) (if_neg nt)).iff ((EqE.of a3 b3).trans ?_);exact iff_k (fun k _=> mul_cut n8 (fun k h1 h2=> G.tz i j k (by omega) (by omega) h1 h2) (G.uz hl) k) (fun k _=> mul_cut n8 (G.uz hi) (fun k h1 h2=> G.tz j l k (by omega) (by omega) h1 h2) k)
theorem F157_2_tells{a:GDga}{n:Nat}(G:GoodG a n)(hf:By 64 a.Diff.val)(ht:By 512 a.Table.val){i j:Nat}(hi:i < n)(hj:j < n):LTells (F157_2_B a i ⟨uE i⟩ j ()) (Al2 a n i j):=by
 have n8:=G.n8;have hp:=G.pr;have hi8:i < 8:=by omega
 have hj8:j < 8:=by omega
 obtain⟨w1,a1,a2,a3⟩:=F178_eq hp hf (G.tm i j hi8 hj8);obtain⟨w2,b1,b2,b3⟩:=F177_eq hp ht (G.dm i hi8) (uE_mo (by omega) j);obtain⟨w3,c1,c2,c3⟩:=F177_eq hp ht (uE_mo (by omega) i) (G.dm j hj8);obtain⟨s1,s2,s3⟩:=sign_eq (G.r i hi8).1;obtain⟨w4,d1,d2⟩:=F70_eq hp b2 (mo_by hp.2 c2) (c:=1 - Dg a i% 2*2) (by omega);have d3:Mo a.Prime w4:=fun k hk=> by rw[d2 k hk]; exact⟨Int.emod_nonneg _ (by omega),Int.emod_lt_of_pos _ (by omega)⟩
 have a1':F178 a ⟨arP a.Table.val (i*64+j*8) 8⟩=some ⟨w1⟩:=a1;have b1':F177 a ⟨arP a.Diff.val (i*8) 8⟩ ⟨uE j⟩=some ⟨w2⟩:=b1;have c1':F177 a ⟨uE i⟩ ⟨arP a.Diff.val (j*8) 8⟩=some ⟨w3⟩:=c1;have s1':F179 (a.Degrees.val.getD i 0)=some (1 - Dg a i% 2*2):=s1;unfold F157_2_B;rw[F69_eq hj8,ob,ixI_nat hi8,ob,ixI_nat hj8,ob,a1',ob,b1',ob,c1',ob,s1',ob,d1,ob];refine LTells.iff ((arE_tells (mo_by hp.2 a2) (mo_by hp.2 d3)).and (Q:=∀l,l < n→Al3 a n i j l) (fun _=>?_) (if_neg nt)) ?_
 ·rw[if_pos rfl]
  exact(forR_unit n G.s (by omega) (Al3 a n i j) (fun l hl _=> F157_3_tells G ht hi hj hl _ _ _) rfl).round rfl rfl
 ·refine and_congr ((EqE.of a3 d2).trans (iff_k (fun k _=> dif_cut n8 (fun k h1 h2=> G.tz i j k hi8 hj8 h1 h2) k) (fun k hk=>?_))) Iff.rfl
  rw[b3 k hk,c3 k hk,mul_cut n8 (fun k h1 h2=> G.dz i k hi8 h1 h2) (G.uz hj),mul_cut n8 (G.uz hi) (fun k h1 h2=> G.dz j k hj8 h1 h2)];rfl
theorem F157_1_tells{a:GDga}{n:Nat}(G:GoodG a n)(hf:By 64 a.Diff.val)(ht:By 512 a.Table.val){i:Nat}(hi:i < n):LTells (F157_1_B a i ()) (Al1 a n i):=by
 have n8:=G.n8;have n1:=G.n1;have hp:=G.pr;have hi8:i < 8:=by omega
 obtain⟨w1,a1,a2,a3⟩:=F177_eq hp ht (uE_mo (p:=a.Prime) (by omega) 0) (uE_mo (by omega) i);obtain⟨w2,b1,b2,b3⟩:=F177_eq hp ht (uE_mo (p:=a.Prime) (by omega) i) (uE_mo (by omega) 0);obtain⟨w3,c1,c2,c3⟩:=F178_eq hp hf (G.dm i hi8);have c1':F178 a ⟨arP a.Diff.val (i*8) 8⟩=some ⟨w3⟩:=c1;have e0:F69 a 0=some ⟨uE 0⟩:=F69_eq (i:=0) (by omega);unfold F157_1_B;rw[F69_eq hi8,ob,e0,ob,a1,ob];refine LTells.iff ((arE_tells (mo_by hp.2 a2) (mo_by hp.2 (uE_mo (p:=a.Prime) (by omega) i))).and (Q:=EqE (Tb a i 0) (uE i)∧(∀k,k < 8→difF a n (Df a i) k=0)∧∀j,j < n→Al2 a n i j) (fun _=>?_) (if_neg nt)) (and_congr ?_ Iff.rfl)
 ·rw[if_pos rfl,b1,ob]
  refine LTells.iff ((arE_tells (mo_by hp.2 b2) (mo_by hp.2 (uE_mo (p:=a.Prime) (by omega) i))).and (Q:=(∀k,k < 8→difF a n (Df a i) k=0)∧∀j,j < n→Al2 a n i j) (fun _=>?_) (if_neg nt)) (and_congr ?_ Iff.rfl)
  ·rw[if_pos rfl,ixI_nat hi8,ob,c1',ob]
   refine LTells.iff ((arE_tells (mo_by hp.2 c2) (by_nil 8)).and (Q:=∀j,j < n→Al2 a n i j) (fun _=>?_) (if_neg nt)) (and_congr ?_ Iff.rfl)
   ·rw[if_pos rfl]
    exact(forR_unit n G.s (by omega) (Al2 a n i) (fun j hj _=> F157_2_tells G hf ht hi hj) rfl).round rfl rfl
   ·exact(EqE.of (g:=fun _=> 0) c3 (fun k _=> by simp)).trans (iff_k (fun k _=> dif_cut n8 (fun k h1 h2=> G.dz i k hi8 h1 h2) k) (fun k _=> rfl))
  ·refine(EqE.of (g:=fun k=>(uE i).getD k 0) b3 (fun k _=> rfl)).trans (iff_k (g:=fun k=>(uE i).getD k 0) (f':=fun k=>(Tb a i 0).getD k 0) (fun k hk=>?_) (fun k _=> rfl))
   rw[sum_units hi8 (by omega)];have:=G.tm i 0 hi8 (by omega) k hk;exact Int.emod_eq_of_lt this.1 this.2
 ·refine(EqE.of (g:=fun k=>(uE i).getD k 0) a3 (fun k _=> rfl)).trans (iff_k (g:=fun k=>(uE i).getD k 0) (f':=fun k=>(Tb a 0 i).getD k 0) (fun k hk=>?_) (fun k _=> rfl))
  rw[sum_units (by omega) hi8];have:=G.tm 0 i (by omega) hi8 k hk;exact Int.emod_eq_of_lt this.1 this.2
def AlG(a:GDga)(n:Nat):Prop:=∀i,i < n→Al1 a n i
theorem F157_tells{a:GDga}(hf:By 64 a.Diff.val)(ht:By 512 a.Table.val):Tells (F157 a) (FormI a∧AlG a a.Size.toNat):=by
 unfold F157;refine(F176_tells hf ht).andB (fun h=>?_) (if_neg nt);obtain⟨n,G⟩:=h.good hf ht;have e:a.Size.toNat=n:=by have:=G.s; omega
 rw[if_pos rfl,e];exact(forR_unit n G.s (by have:=G.n8; omega) (Al1 a n) (fun i hi _=> F157_1_tells G hf ht hi) rfl).end_ rfl rfl
theorem F180_3_tells{a:GDga}{n:Nat}(G:GoodG a n)(ht:By 512 a.Table.val){i j l:Nat}(hi:i < n)(hj:j < n)(hl:l < n)(x15:Int)(x40:Ar .u8 8):LTells (F180_3_B a i ⟨uE i⟩ x15 j x40 l ()) (Al3 a n i j l):=by
 have n8:=G.n8;have hp:=G.pr;obtain⟨w1,a1,a2,a3⟩:=F199_eq hp ht G.s n8 (G.tm i j (by omega) (by omega)) (uE_mo (by omega) l);obtain⟨w2,b1,b2,b3⟩:=F199_eq hp ht G.s n8 (uE_mo (by omega) i) (G.tm j l (by omega) (by omega));have a1':F199 a ⟨arP a.Table.val (i*64+j*8) 8⟩ ⟨uE l⟩=some ⟨w1⟩:=a1;have b1':F199 a ⟨uE i⟩ ⟨arP a.Table.val (j*64+l*8) 8⟩=some ⟨w2⟩:=b1;unfold F180_3_B;rw[ixI_nat (show i < 8 by omega),ob,ixI_nat (show j < 8 by omega),ob,F104_eq (show l < 8 by omega),ob,a1',ob,ixI_nat (show l < 8 by omega),ob,b1',ob];exact(LTells.last (arE_tells (mo_by hp.2 a2) (mo_by hp.2 b2)) (if_pos rfl) (if_neg nt)).iff (EqE.of a3 b3)
theorem F180_2_tells{a:GDga}{n:Nat}(G:GoodG a n)(hf:By 64 a.Diff.val)(ht:By 512 a.Table.val){i j:Nat}(hi:i < n)(hj:j < n):LTells (F180_2_B a i ⟨uE i⟩ (sg a i) j ()) (Al2 a n i j):=by
 have n8:=G.n8;have hp:=G.pr;have hi8:i < 8:=by omega
 have hj8:j < 8:=by omega
 obtain⟨w1,a1,a2,a3⟩:=F198_eq hp hf G.s n8 (G.tm i j hi8 hj8);obtain⟨w2,b1,b2,b3⟩:=F199_eq hp ht G.s n8 (G.dm i hi8) (uE_mo (by omega) j);obtain⟨w3,c1,c2,c3⟩:=F199_eq hp ht G.s n8 (uE_mo (by omega) i) (G.dm j hj8);obtain⟨s1,s2,s3⟩:=sign_eq (G.r i hi8).1;obtain⟨w4,d1,d2⟩:=F105_eq hp b2 (mo_by hp.2 c2) (c:=sg a i) (by unfold sg; omega);have d3:Mo a.Prime w4:=fun k hk=> by rw[d2 k hk]; exact⟨Int.emod_nonneg _ (by omega),Int.emod_lt_of_pos _ (by omega)⟩
 have a1':F198 a ⟨arP a.Table.val (i*64+j*8) 8⟩=some ⟨w1⟩:=a1;have b1':F199 a ⟨arP a.Diff.val (i*8) 8⟩ ⟨uE j⟩=some ⟨w2⟩:=b1;have c1':F199 a ⟨uE i⟩ ⟨arP a.Diff.val (j*8) 8⟩=some ⟨w3⟩:=c1;unfold F180_2_B;rw[ixI_nat hi8,ob,F104_eq hj8,ob,b1',ob,ixI_nat hj8,ob,a1',ob,c1',ob,d1,ob];refine LTells.iff ((arE_tells (mo_by hp.2 a2) (mo_by hp.2 d3)).and (Q:=∀l,l < n→Al3 a n i j l) (fun _=>?_) (if_neg nt)) ?_
 ·rw[if_pos rfl]
  exact(forR_unit n G.s (by omega) (Al3 a n i j) (fun l hl _=> F180_3_tells G ht hi hj hl _ _) rfl).round rfl rfl
 ·refine and_congr ((EqE.of a3 d2).trans (iff_k (fun k _=> rfl) (fun k hk=>?_))) Iff.rfl
  rw[b3 k hk,c3 k hk]
theorem F180_1_tells{a:GDga}{n:Nat}(G:GoodG a n)(hf:By 64 a.Diff.val)(ht:By 512 a.Table.val){i:Nat}(hi:i < n):LTells (F180_1_B a i ()) (Al1 a n i):=by
 have n8:=G.n8;have n1:=G.n1;have hp:=G.pr;have hi8:i < 8:=by omega
 have d5:=(G.r i hi8).1;unfold R5 at d5;have d5':0≤a.Degrees.val.getD i 0:=d5.1;have m1:=Int.emod_nonneg (a.Degrees.val.getD i 0) (show(2:Int)≠0 by decide);have m2:=Int.emod_lt_of_pos (a.Degrees.val.getD i 0) (show(0:Int) < 2 by decide);obtain⟨w3,c1,c2,c3⟩:=F198_eq hp hf G.s n8 (G.dm i hi8);have c1':F198 a ⟨arP a.Diff.val (i*8) 8⟩=some ⟨w3⟩:=c1;have t0:By 8 (Tb a 0 i):=by_arP ht (by omega);have ti:By 8 (Tb a i 0):=by_arP ht (by omega);have ub:=mo_by hp.2 (uE_mo (p:=a.Prime) (by omega) i);have q0:=arE_tells t0 ub;have q1:=arE_tells ti ub;unfold Tb at q0 q1;rw[Nat.zero_mul,Nat.zero_add]at q0;rw[Nat.zero_mul,Nat.add_zero]at q1;have es:(1 - 2*(a.Degrees.val.getD i 0% 2))=sg a i:=by unfold sg Dg; omega
 unfold F180_1_B;rw[F104_eq hi8,ob,ixI_nat hi8,ob,remI_ok (by decide),ob,Int.tmod_eq_emod_of_nonneg d5',chk_ok (by omega) (by omega),ob,chk_ok (by omega) (by omega),ob,es];refine LTells.iff (q0.and (Q:=EqE (Tb a i 0) (uE i)∧(∀k,k < 8→difF a n (Df a i) k=0)∧∀j,j < n→Al2 a n i j) (fun _=>?_) (if_neg nt)) ?_
 ·rw[if_pos rfl]
  refine LTells.iff (q1.and (Q:=(∀k,k < 8→difF a n (Df a i) k=0)∧∀j,j < n→Al2 a n i j) (fun _=>?_) (if_neg nt)) ?_
  ·rw[if_pos rfl,c1',ob]
   refine LTells.iff ((arE_tells (mo_by hp.2 c2) (by_nil 8)).and (Q:=∀j,j < n→Al2 a n i j) (fun _=>?_) (if_neg nt)) (and_congr ?_ Iff.rfl)
   ·rw[if_pos rfl]
    exact(forR_unit n G.s (by omega) (Al2 a n i) (fun j hj _=> F180_2_tells G hf ht hi hj) rfl).round rfl rfl
   ·exact EqE.of (g:=fun _=> 0) c3 (fun k _=> by simp)
  ·unfold Tb; rw[Nat.zero_mul,Nat.add_zero]
 ·unfold Al1 Tb; rw[Nat.zero_mul,Nat.zero_add]
theorem F180_tells{a:GDga}(hf:By 64 a.Diff.val)(ht:By 512 a.Table.val):Tells (F180 a) (FormI a∧AlG a a.Size.toNat):=by
 unfold F180;refine((F197_tells hf ht).iff form_iff.symm).andB (fun h=>?_) (if_neg nt);obtain⟨n,G⟩:=h.good hf ht;have e:a.Size.toNat=n:=by have:=G.s; omega
 rw[if_pos rfl,e];exact(forR_unit n G.s (by have:=G.n8; omega) (Al1 a n) (fun i hi _=> F180_1_tells G hf ht hi) rfl).end_ rfl rfl
theorem dga_same{a:GDga}(h:LongG a):∃b,F157 a=some b∧F180 a=some b∧(b=true→∃n,GoodG a n∧AlG a n):=by
 have hf:=by_of h.f;have ht:=by_of h.t;obtain⟨b,b1,b2,b3⟩:=(F157_tells hf ht).same (F180_tells hf ht);refine⟨b,b1,b2,fun e=>?_⟩;obtain⟨f,g⟩:=b3.1 e;obtain⟨n,G⟩:=f.good hf ht;have e:a.Size.toNat=n:=by have:=G.s; omega
 rw[e]at g;exact⟨n,G,g⟩
def castL(l:List Nat):List Int:=l.map fun(i:Nat)=>(i:Int)
def memN(a:GDga)(n:Nat)(d:Int):List Nat:=(List.range n).filter fun i=> decide (Dg a i=d)
theorem memN_mem{a:GDga}{n i:Nat}{d:Int}:i∈memN a n d↔i < n∧Dg a i=d:=by simp[memN]
theorem memN_len(a:GDga)(n:Nat)(d:Int):(memN a n d).length≤n:=by
 have:=List.length_filter_le (fun i=> decide (Dg a i=d)) (List.range n);simpa[memN]using this
theorem memN_succ(a:GDga)(n:Nat)(d:Int):memN a (n+1) d=if Dg a n=d then memN a n d++[n]else memN a n d:=by
 unfold memN;rw[List.range_succ,List.filter_append];by_cases h:Dg a n=d
 ·rw[if_pos h]; simp[h]
 ·rw[if_neg h]; simp[h]
theorem castL_len(l:List Nat):(castL l).length=l.length:=by simp[castL]
theorem castL_get{l:List Nat}{k:Nat}(hk:k < l.length):getI (castL l) (k:Int)=some (l[k]:Int):=by
 rw[getI_nat (by rw[castL_len]; exact hk)]; simp[castL]
theorem F72_eq{a:GDga}{n:Nat}(G:GoodG a n)(d:Int):F72 a d=some (castL (memN a n d)):=by
 have n8:=G.n8;obtain⟨w,h1,h2⟩:=forR_inv (B:=F72_1_B a d) (D:=F72_1_D a d) n G.s (by omega) (fun i o=> o=castL (memN a i d)) (fun w=> w=castL (memN a n d)) (s:=[]) rfl (fun i o hi ho=> by
  subst ho;have hl:=memN_len a i d;refine .inl ⟨castL (memN a (i+1) d),?_,rfl⟩;unfold F72_1_B;rw[ixI_nat (show i < 8 by omega),ob,memN_succ];by_cases c:Dg a i=d
  ·rw[if_pos c,if_pos (show a.Degrees.val.getD i 0=d from c),app_ok (by rw[castL_len]; simp; omega) (by rw[castL_len]; simp; omega),ob]
   simp[castL]
  ·rw[if_neg c,if_neg (show¬a.Degrees.val.getD i 0=d from c)]) (fun o ho=>⟨o,rfl,ho⟩)
 unfold F72;rw[h1,ob,h2]
theorem F106_eq{a:GDga}{n:Nat}(G:GoodG a n)(d:Int):F106 a d=some (castL (memN a n d)):=by
 have n8:=G.n8;obtain⟨w,h1,h2⟩:=forR_inv (B:=F106_1_B a d) (D:=F106_1_D a d) n G.s (by omega) (fun i o=> o=castL (memN a i d)) (fun w=> w=castL (memN a n d)) (s:=[]) rfl (fun i o hi ho=> by
  subst ho;have hl:=memN_len a i d;refine .inl ⟨castL (memN a (i+1) d),?_,rfl⟩;unfold F106_1_B;rw[ixI_nat (show i < 8 by omega),ob,memN_succ];by_cases c:Dg a i=d
  ·rw[if_pos c,if_pos (show a.Degrees.val.getD i 0=d from c),app_ok (by rw[castL_len]; simp; omega) (by rw[castL_len]; simp; omega),ob]
   simp[castL]
  ·rw[if_neg c,if_neg (show¬a.Degrees.val.getD i 0=d from c)]) (fun o ho=>⟨o,rfl,ho⟩)
 unfold F106;rw[h1,ob,h2]
def vecE(a:GDga)(n:Nat)(d:Int)(u:List Int):List Int:=(memN a n d).map fun i=> u.getD i 0
theorem vecE_len (a:GDga) (n:Nat) (d:Int) (u:List Int):(vecE a n d u).length=(memN a n d).length:=by simp[vecE]
theorem F107_eq{a:GDga}{n:Nat}(G:GoodG a n){u:List Int}(hu:By 8 u)(d:Int):F107 a d ⟨u⟩=some (vecE a n d u):=by
 have n8:=G.n8;have hl:=memN_len a n d;unfold F107;rw[F106_eq G d,ob];rw[forR_map (l:=castL (memN a n d)) (B:=F107_1_B ⟨u⟩ (castL (memN a n d))) (D:=F107_1_D ⟨u⟩ (castL (memN a n d))) (s0:=[]) (fun x=> u.getD x.toNat 0) (by rw[castL_len]; omega) (fun k hk s hs=> by
  have hk':k < (memN a n d).length:=by rwa[castL_len]at hk
  have hm:=memN_mem.1 (List.getElem_mem hk');have hb:=hu (memN a n d)[k] (by omega);simp only[List.length_nil]at hs;unfold F107_1_B;rw[castL_get hk',ob,ixI_nat (show(memN a n d)[k] < 8 by omega),ob];simp only;rw[chk_ok (by omega) (by omega),ob,app_ok (by simp; omega) (by simp; omega),ob];simp[castL]) (fun _ _=> rfl),ob]
 simp[castL,vecE]
theorem F257_eq{a:GDga}{n:Nat}(G:GoodG a n){u:List Int}(hu:By 8 u)(d:Int):F257 a d ⟨u⟩=some (vecE a n d u):=by
 have n8:=G.n8;have hl:=memN_len a n d;unfold F257;rw[F72_eq G d,ob];rw[forR_map (l:=castL (memN a n d)) (B:=F257_1_B ⟨u⟩ (castL (memN a n d))) (D:=F257_1_D ⟨u⟩ (castL (memN a n d))) (s0:=[]) (fun x=> u.getD x.toNat 0) (by rw[castL_len]; omega) (fun k hk s hs=> by
  have hk':k < (memN a n d).length:=by rwa[castL_len]at hk
  have hm:=memN_mem.1 (List.getElem_mem hk');have hb:=hu (memN a n d)[k] (by omega);simp only[List.length_nil]at hs;unfold F257_1_B;rw[castL_get hk',ob,ixI_nat (show(memN a n d)[k] < 8 by omega),ob];simp only;rw[chk_ok (by omega) (by omega),ob,app_ok (by simp; omega) (by simp; omega),ob];simp[castL]) (fun _ _=> rfl),ob]
 simp[castL,vecE]
theorem elem_same{a:GDga}{n:Nat}(G:GoodG a n){d:Int}{v:List Int}(hv:VecOK a.Prime (memN a n d).length v):∃w,F256 a d v=some ⟨w⟩∧F290 a d v=some ⟨w⟩∧Mo a.Prime w∧∀k,n≤k→k < 8→w.getD k 0=0:=by
 have n8:=G.n8;have hp:=G.p.range;have hl:=memN_len a n d;have hvl:=hv.len;obtain⟨w,h1,h2⟩:=forR_inv (B:=F256_1_B v (castL (memN a n d))) (D:=F256_1_D v (castL (memN a n d))) (hi:=((castL (memN a n d)).length:Int)) (memN a n d).length (by rw[castL_len]) (by omega) (fun i o=> Mo a.Prime o∧∀k,n≤k→k < 8→o.getD k 0=0) (fun w=> Mo a.Prime w∧∀k,n≤k→k < 8→w.getD k 0=0) (s:=[]) ⟨.nil (by omega),fun k _ _=> by simp⟩ (fun i o hi ho=> by
  have hm:=memN_mem.1 (List.getElem_mem hi);have hr:=hv.rng i hi;have hx:nth v i=v[i]'(by omega):=by simp[nth,show i < v.length by omega]
  refine .inl ⟨arW 8 o (memN a n d)[i] (nth v i),?_,fun k hk=>?_,fun k h1 h2=>?_⟩
  ·unfold F256_1_B
   rw[castL_get hi,ob,getI_nat (show i < v.length by omega),ob,ixI_nat (show(memN a n d)[i] < 8 by omega),ob,←hx,wrap_u8 hr.1 (by omega),ob]
  ·rw[arW_get hk]; split
   ·exact hr
   ·exact ho.1 k hk
  ·rw[arW_get h2,if_neg (by omega)]; exact ho.2 k h1 h2) (fun o ho=>⟨o,rfl,ho⟩)
 refine⟨w,?_,?_,h2⟩
 ·unfold F256; rw[F72_eq G d,ob,h1,ob]
 ·unfold F290; rw[F106_eq G d,ob]
  have e:F290_1_B v (castL (memN a n d))=F256_1_B v (castL (memN a n d)):=rfl;have e2:F290_1_D v (castL (memN a n d))=F256_1_D v (castL (memN a n d)):=rfl;rw[e,e2,h1,ob]
def tp(a:GDga)(n:Nat):Nat:=(Dg a (n - 1)).toNat
def dimX(a:GDga)(n d:Nat):Int:=((memN a n (d:Int)).length:Int)
def levX(a:GDga)(n d:Nat):List Int:=(memN a n (d:Int)).map (Lv a)
def rowX(a:GDga)(n d:Nat):List (List Int):=(memN a n ((d+1:Nat):Int)).map fun i=> vecE a n (d:Int) (Df a i)
def cX(a:GDga)(n:Nat):GComplex:=⟨a.Prime,(List.range (tp a n+1)).map (dimX a n),(List.range (tp a n)).map (rowX a n)⟩
def fX(a:GDga)(n:Nat):GFiltered:=⟨cX a n,(List.range (tp a n+1)).map (levX a n)⟩
theorem GoodG.top{a:GDga}{n:Nat}(G:GoodG a n):Dg a (n - 1)=(tp a n:Int)∧tp a n≤5:=by
 have:=G.n8;have:=(G.r (n - 1) (by omega)).1;unfold R5 at this;unfold tp;omega
theorem F65_eq{a:GDga}{n:Nat}(G:GoodG a n)(hf:By 64 a.Diff.val):F65 a=some (fX a n):=by
 have n8:=G.n8;have n1:=G.n1;obtain⟨t1,t2⟩:=G.top;have hs:=G.s;obtain⟨w,h1,h2⟩:=loopW_inv (S:=F65_1_S a) (fun s=>(tp a n+1 - s.2.2.2.2).toNat) (fun s=>∃d:Nat,d≤tp a n+1∧s=((List.range d).map (dimX a n),(List.range (d - 1)).map (rowX a n),(List.range d).map (levX a n),a.Prime,(d:Int))) (fun w=> w=((cX a n).Dims,(cX a n).Maps,(fX a n).Levels,a.Prime)) (s:=([],[],[],a.Prime,0)) ⟨0,by omega,rfl⟩ (by
  rintro s ⟨d,hd,rfl⟩;unfold F65_1_S;simp only;rw[chk_ok (by omega) (by omega),ob,show a.Size - 1=((n - 1:Nat):Int) by omega,ixI_nat (show n - 1 < 8 by omega),ob];by_cases c:(d:Int)≤a.Degrees.val.getD (n - 1) 0
  ·have c':(d:Int)≤Dg a (n - 1):=c
   have hl:=memN_len a n (d:Int);have hm:∀d':Int,(memN a n d').length≤8:=fun d'=> by have:=memN_len a n d'; omega
   obtain⟨w,g1,g2⟩:=forR_inv (B:=F65_2_B a ((List.range d).map (dimX a n)) ((List.range (d - 1)).map (rowX a n)) ((List.range d).map (levX a n)) a.Prime d (castL (memN a n d))) (D:=F65_2_D a ((List.range d).map (dimX a n)) ((List.range (d - 1)).map (rowX a n)) ((List.range d).map (levX a n)) a.Prime d (castL (memN a n d))) (hi:=((castL (memN a n (d:Int))).length:Int)) (memN a n (d:Int)).length (by rw[castL_len]) (by omega)
    (fun i s=> s=(((memN a n (d:Int)).take i).map (Lv a),((memN a n (d:Int)).take i).map fun i=> vecE a n ((d:Int) - 1) (Df a i))) (fun w=> w=(levX a n d,(memN a n (d:Int)).map fun i=> vecE a n ((d:Int) - 1) (Df a i))) (s:=([],[])) (by simp) (by
    rintro i s hi rfl;have hmm:=memN_mem.1 (List.getElem_mem hi);have hv:F107 a ((d:Int) - 1) ⟨arP a.Diff.val ((memN a n (d:Int))[i]*8) 8⟩=some (vecE a n ((d:Int) - 1) (Df a (memN a n (d:Int))[i])):=F107_eq G (by_arP hf (by omega)) _;refine .inl ⟨_,?_,rfl⟩;unfold F65_2_B;simp only;rw[castL_get hi,ob,ixI_nat (show(memN a n (d:Int))[i] < 8 by omega),ob,app_ok (by simp; omega) (by simp; omega),ob,chk_ok (by omega) (by omega),ob,hv,ob,app_ok (by simp; omega) (by simp; omega),ob,List.take_succ_eq_append_getElem hi,List.map_append,List.map_append];rfl) (by
    rintro s rfl;exact⟨_,rfl,by rw[List.take_of_length_le (Nat.le_refl _)]; rfl⟩)
   rw[if_pos c,F106_eq G,ob,g1,ob,g2];simp only;rw[app_ok (by simp; omega) (by simp; omega),ob,app_ok (by simp; omega) (by simp; omega),ob];left;by_cases c0:0 < (d:Int)
   ·obtain⟨e,rfl⟩:∃e,d=e+1:=⟨d - 1,by omega⟩
    rw[if_pos c0,app_ok (by simp; omega) (by simp; omega),ob,chk_ok (by omega) (by omega),ob];refine⟨_,rfl,⟨e+2,by omega,?_⟩,by simp only; omega⟩;rw[show e+2 - 1=e+1 by omega,show e+1 - 1=e by omega,List.range_succ (n:=e+1),List.map_append,List.map_append,List.range_succ (n:=e),List.map_append (f:=rowX a n)];simp only[List.map_cons,List.map_nil,castL_len];refine Prod.ext rfl (Prod.ext ?_ (Prod.ext rfl (Prod.ext rfl (by simp only; omega))));simp only;unfold rowX;rw[show((e+1:Nat):Int) - 1=(e:Int) by omega]
   ·have hd0:d=0:=by omega
    subst hd0;rw[if_neg c0,chk_ok (by omega) (by omega),ob];refine⟨_,rfl,⟨1,by omega,?_⟩,by simp only; omega⟩;simp only[castL_len,List.range_zero,List.map_nil,List.nil_append];rfl
  ·have c':¬(d:Int)≤Dg a (n - 1):=c
   rw[if_neg c];right;refine⟨_,rfl,?_⟩;obtain rfl:d=tp a n+1:=by omega
   rfl)
 unfold F65;rw[h1,ob,h2];rfl
theorem map_range_getD{α:Type}(f:Nat→α)(d:α){m k:Nat}(h:k < m):((List.range m).map f).getD k d=f k:=by
 rw[List.getD_eq_getElem?_getD,List.getElem?_map,List.getElem?_range h]; rfl
theorem map_getD{α β:Type}(f:α→β)(d:β){l:List α}{k:Nat}(h:k < l.length):(l.map f).getD k d=f l[k]:=by
 rw[List.getD_eq_getElem?_getD,List.getElem?_map,List.getElem?_eq_getElem h]; rfl
theorem rowX_at{a:GDga}{n:Nat}{k:Nat}(hk:k < tp a n):(cX a n).Maps.getD k []=rowX a n k:=map_range_getD _ _ hk
theorem rowX_row{a:GDga}{n:Nat}{k i:Nat}(hi:i < (memN a n ((k+1:Nat):Int)).length):(rowX a n k).getD i []=vecE a n (k:Int) (Df a (memN a n ((k+1:Nat):Int))[i]):=map_getD _ _ hi
theorem vecE_at{a:GDga}{n:Nat}{d:Int}{u:List Int}{j:Nat}(hj:j < (memN a n d).length):(vecE a n d u).getD j 0=u.getD (memN a n d)[j] 0:=map_getD _ _ hj
theorem dimX_at{a:GDga}{n:Nat}{d:Nat}(hd:d < tp a n+1):(cX a n).Dims.getD d 0=dimX a n d:=map_range_getD _ _ hd
theorem dims_ok{a:GDga}{n:Nat}(G:GoodG a n):1≤(cX a n).Dims.length∧(cX a n).Dims.length=tp a n+1∧∀d∈(cX a n).Dims,0≤d∧d≤8:=by
 have n8:=G.n8;refine⟨by simp[cX],by simp[cX],fun d hd=>?_⟩;obtain⟨k,_,rfl⟩:=List.mem_map.1 hd;have:=memN_len a n (k:Int);unfold dimX; omega
theorem zX_num{a:GDga}{n:Nat}(G:GoodG a n){k i j:Nat}(hin:InT (zM (cX a n).Dims) k i j):numAt (zM (cX a n).Dims) k i j=0∧k < tp a n∧i < (memN a n ((k+1:Nat):Int)).length∧j < (memN a n (k:Int)).length:=by
 obtain⟨h1,h2,h3⟩:=hin;have hk:k < (cX a n).Dims.length - 1:=by simpa[zM]using h1
 have hk':k < tp a n:=by rw[(dims_ok G).2.1]at hk; omega
 rw[zM_at hk]at h2 h3;unfold numAt;rw[zM_at hk];unfold zT at h2 h3 ⊢;rw[List.length_replicate,dimX_at (by omega)]at h2;have e:(List.replicate ((cX a n).Dims.getD (k+1) 0).toNat (List.replicate ((cX a n).Dims.getD k 0).toNat (0:Int))).getD i []=List.replicate ((cX a n).Dims.getD k 0).toNat (0:Int):=by
  rw[List.getD_eq_getElem?_getD,List.getElem?_replicate,if_pos (by rw[dimX_at (by omega)]; exact h2)]; rfl
 rw[e]at h3 ⊢;rw[List.length_replicate,dimX_at (by omega)]at h3;unfold dimX at h2 h3;refine⟨?_,hk',by omega,by omega⟩;rw[List.getD_eq_getElem?_getD,List.getElem?_replicate];split <;> rfl
theorem zX_in{a:GDga}{n:Nat}(G:GoodG a n){k i j:Nat}(hk:k < tp a n)(hi:i < (memN a n ((k+1:Nat):Int)).length)(hj:j < (memN a n (k:Int)).length):InT (zM (cX a n).Dims) k i j:=by
 have hk':k < (cX a n).Dims.length - 1:=by rw[(dims_ok G).2.1]; omega
 unfold InT;rw[zM_at hk'];have e:(zT (cX a n).Dims k).getD i []=List.replicate ((cX a n).Dims.getD k 0).toNat (0:Int):=by
  unfold zT;rw[List.getD_eq_getElem?_getD,List.getElem?_replicate,if_pos (by rw[dimX_at (by omega)]; unfold dimX; omega)]; rfl
 rw[e];refine⟨by simpa[zM]using hk',?_,?_⟩
 ·unfold zT; rw[List.length_replicate,dimX_at (by omega)]; unfold dimX; omega
 ·rw[List.length_replicate,dimX_at (by omega)]; unfold dimX; omega
theorem zX_shp{a:GDga}{n:Nat}(G:GoodG a n):Shp (zM (cX a n).Dims) (cX a n).Maps:=by
 obtain⟨d1,d2,d3⟩:=dims_ok G;have hml:(cX a n).Maps.length=tp a n:=by simp[cX]
 refine⟨by rw[hml]; simp[zM,d2],fun k hk=>?_,fun k hk i hi=>?_⟩
 ·rw[hml]at hk
  rw[zM_at (by omega),rowX_at hk];unfold zT rowX;rw[List.length_replicate,List.length_map,dimX_at (by omega)]; unfold dimX; omega
 ·rw[hml]at hk
  rw[rowX_at hk]at hi ⊢;have hi':i < (memN a n ((k+1:Nat):Int)).length:=by simpa[rowX]using hi
  rw[zM_at (by omega),rowX_row hi',vecE_len];unfold zT;rw[List.getD_eq_getElem?_getD,List.getElem?_replicate,if_pos (by rw[dimX_at (by omega)]; unfold dimX; omega)];show(List.replicate _ _).length=_;rw[List.length_replicate,dimX_at (by omega)]; unfold dimX; omega
theorem numX{a:GDga}{n:Nat}(G:GoodG a n){k i j:Nat}(hk:k < tp a n)(hi:i < (memN a n ((k+1:Nat):Int)).length)(hj:j < (memN a n (k:Int)).length):numAt (cX a n).Maps k i j=a.Diff.val.getD ((memN a n ((k+1:Nat):Int))[i]*8+(memN a n (k:Int))[j]) 0:=by
 have n8:=G.n8;have:=memN_mem.1 (List.getElem_mem hj);unfold numAt;rw[rowX_at hk,rowX_row hi,vecE_at hj];unfold Df;rw[arP_get (by omega)]
theorem numX_rng{a:GDga}{n:Nat}(G:GoodG a n){k i j:Nat}(hk:k < tp a n)(hi:i < (memN a n ((k+1:Nat):Int)).length)(hj:j < (memN a n (k:Int)).length):0≤numAt (cX a n).Maps k i j∧numAt (cX a n).Maps k i j < a.Prime:=by
 have n8:=G.n8;have h1:=memN_mem.1 (List.getElem_mem hi);have h2:=memN_mem.1 (List.getElem_mem hj);have:=G.dm _ (show(memN a n ((k+1:Nat):Int))[i] < 8 by omega) _ (show(memN a n (k:Int))[j] < 8 by omega);unfold numAt;rw[rowX_at hk,rowX_row hi,vecE_at hj];exact this
theorem F36_5_eq{a:GDga}{n:Nat}(G:GoodG a n){k i:Nat}(hk:k < tp a n)(hi:i < (memN a n ((k+1:Nat):Int)).length){s:T3s}(hs:AT (q1 a.Prime) (zM (cX a n).Dims) (cX a n).Maps (fun k' i' _=> k' < k∨(k'=k∧i' < i)) s):
  ∃s',forR 0 ((castL (memN a n (k:Int))).length:Int) (F36_5_B a a.Prime ((k:Int)+1) i ((memN a n ((k+1:Nat):Int))[i]:Nat) (castL (memN a n (k:Int)))) (fun _ s=> some s) s=some s'∧AT (q1 a.Prime) (zM (cX a n).Dims) (cX a n).Maps (fun k' i' _=> k' < k∨(k'=k∧i' < i+1)) s':=by
 have n8:=G.n8;have hp:=G.p.range;have hl:=memN_len a n (k:Int);have ht:=G.top;have hm:=memN_mem.1 (List.getElem_mem hi);refine forR_inv (B:=F36_5_B a a.Prime ((k:Int)+1) i ((memN a n ((k+1:Nat):Int))[i]:Nat) (castL (memN a n (k:Int)))) (D:=fun _ s=> some s) (memN a n (k:Int)).length (by rw[castL_len]) (by omega) (fun j s=> AT (q1 a.Prime) (zM (cX a n).Dims) (cX a n).Maps (fun k' i' j'=>(k' < k∨(k'=k∧i' < i))∨(k'=k∧i'=i∧j' < j)) s) (fun s'=> AT (q1 a.Prime) (zM (cX a n).Dims) (cX a n).Maps (fun k' i' _=> k' < k∨(k'=k∧i' < i+1)) s') (s:=s) (hs.imp fun k' i' j' _=> by omega) (fun j s hj hA=>?_) (fun s hA=>⟨s,rfl,hA.imp fun k' i' j' hin=> by
  have:=(zX_num G hin).2.2.2;constructor
  ·intro q; omega
  ·intro q
   by_cases e:k'=k∧i'=i
   ·obtain⟨rfl,rfl⟩:=e; exact .inr ⟨rfl,rfl,this⟩
   ·omega⟩)
 have hmj:=memN_mem.1 (List.getElem_mem hj);have hin:=zX_in G hk hi hj;have hz:=zX_num G hin;have hnD:¬((k < k∨(k=k∧i < i))∨(k=k∧i=i∧j < j)):=by omega
 have h0:=(hA.2 k i j hin).2 hnD;rw[hz.1]at h0;have hv:=numX_rng G hk hi hj;have hvn:=numX G hk hi hj;left;refine⟨put3 s k i j (q1 a.Prime (numAt s k i j) (numAt (cX a n).Maps k i j)),?_,hA.step hin hnD fun k' i' j'=> by omega⟩;unfold F36_5_B;rw[castL_get hj,ob,ixI_nat (show(memN a n ((k+1:Nat):Int))[i] < 8 by omega),ob,ixI_nat (show(memN a n (k:Int))[j] < 8 by omega),ob,←hvn,chk_ok (by omega) (by omega),ob,F75_eq hp (hA.1.inT hin) (by omega) (by rw[h0]; omega) hv,ob]
theorem F36_4_eq{a:GDga}{n:Nat}(G:GoodG a n){k:Nat}(hk:k < tp a n){s:T3s}(hs:AT (q1 a.Prime) (zM (cX a n).Dims) (cX a n).Maps (fun k' _ _=> k' < k) s):
  ∃s',forR 0 ((castL (memN a n ((k+1:Nat):Int))).length:Int) (F36_4_B a a.Prime ((k:Int)+1) (castL (memN a n ((k+1:Nat):Int)))) (fun _ s=> some s) s=some s'∧AT (q1 a.Prime) (zM (cX a n).Dims) (cX a n).Maps (fun k' _ _=> k' < k+1) s':=by
 have n8:=G.n8;have ht:=G.top;have hl:=memN_len a n ((k+1:Nat):Int);refine forR_inv (B:=F36_4_B a a.Prime ((k:Int)+1) (castL (memN a n ((k+1:Nat):Int)))) (D:=fun _ s=> some s) (memN a n ((k+1:Nat):Int)).length (by rw[castL_len]) (by omega) (fun i s=> AT (q1 a.Prime) (zM (cX a n).Dims) (cX a n).Maps (fun k' i' _=> k' < k∨(k'=k∧i' < i)) s) (fun s'=> AT (q1 a.Prime) (zM (cX a n).Dims) (cX a n).Maps (fun k' _ _=> k' < k+1) s') (s:=s) (hs.imp fun k' i' j' _=> by omega) (fun i s hi hA=>?_) (fun s hA=>⟨s,rfl,hA.imp fun k' i' j' hin=> by
  have:=(zX_num G hin).2.2.1;constructor
  ·intro q; omega
  ·intro q
   by_cases e:k'=k
   ·subst e; exact .inr ⟨rfl,this⟩
   ·omega⟩)
 obtain⟨s',g1,g2⟩:=F36_5_eq G hk hi hA;left;refine⟨s',?_,g2⟩;unfold F36_4_B;rw[castL_get hi,ob,chk_ok (by omega) (by omega),ob,show(k:Int)+1 - 1=(k:Int) by omega,F72_eq G,ob,g1,ob]
theorem F36_eq{a:GDga}{n:Nat}(G:GoodG a n):F36 a=some (fX a n):=by
 have n8:=G.n8;have n1:=G.n1;obtain⟨t1,t2⟩:=G.top;have hs:=G.s;have hp:=G.p.range;obtain⟨d1,d2,d3⟩:=dims_ok G;obtain⟨w,h1,h2⟩:=forR_inv (B:=F36_1_B a) (D:=fun _ s=> some s) (hi:=Dg a (n - 1)+1) (tp a n+1) (by omega) (by omega) (fun i s=> s=((List.range i).map (levX a n),(List.range i).map (dimX a n))) (fun w=> w=((fX a n).Levels,(cX a n).Dims)) (s:=([],[])) rfl (by
  rintro d s hd rfl;have hl:=memN_len a n (d:Int);refine .inl ⟨_,?_,rfl⟩;unfold F36_1_B;rw[F72_eq G,ob,forR_map (l:=castL (memN a n (d:Int))) (B:=F36_2_B a (castL (memN a n (d:Int)))) (D:=fun _ l=> some l) (s0:=[]) (fun x=> Lv a x.toNat) (by rw[castL_len]; omega) (fun k hk s hs=> by
   have hk':k < (memN a n (d:Int)).length:=by rwa[castL_len]at hk
   have hm:=memN_mem.1 (List.getElem_mem hk');simp only[List.length_nil]at hs;unfold F36_2_B;rw[castL_get hk',ob,ixI_nat (show(memN a n (d:Int))[k] < 8 by omega),ob,app_ok (by simp; omega) (by simp; omega),ob];simp[castL,Lv]) (fun _ _=> rfl),ob]
  have e: []++(castL (memN a n (d:Int))).map (fun x=> Lv a x.toNat)=levX a n d:=by simp[castL,levX]
  rw[e,app_ok (by simp; omega) (by simp; omega),ob,app_ok (by simp; omega) (by simp; omega),ob,List.range_succ,List.map_append,List.map_append];simp[levX,dimX]) (by
  rintro s rfl;exact⟨_,rfl,rfl⟩)
 obtain⟨m,g1,g2⟩:=forR_from (lo:=1) (B:=F36_3_B a a.Prime) (D:=fun _ m=> some m) (hi:=((cX a n).Dims.length:Int)) 1 (tp a n+1) rfl (by rw[d2]) (by omega) (by omega) (fun d s=> 1≤d∧AT (q1 a.Prime) (zM (cX a n).Dims) (cX a n).Maps (fun k' _ _=> k'+1 < d) s) (fun m=> m=(cX a n).Maps) (s:=zM (cX a n).Dims) ⟨Nat.le_refl _,(AT.zero _ _ _).imp fun k i j _=>⟨fun q=> q.elim,fun q=> by omega⟩⟩ (by
  rintro d s hd ⟨hd1,hA⟩;obtain⟨k,rfl⟩:∃k,d=k+1:=⟨d - 1,by omega⟩;obtain⟨s',q1,q2⟩:=F36_4_eq G (k:=k) (by omega) (hA.imp fun k' _ _ _=> by omega);left;refine⟨s',?_,by omega,q2.imp fun k' _ _ _=> by omega⟩;have e:((k+1:Nat):Int)=(k:Int)+1:=by omega
  unfold F36_3_B;rw[F72_eq G,ob];rw[e]at q1 ⊢;rw[q1,ob]) (by
  rintro s ⟨_,hA⟩;refine⟨s,rfl,(hA.1.trans (zX_shp G)).eq fun k i j hin=>?_⟩;have hin':=(zX_shp G).inT hin;have hz:=zX_num G hin';rw[(hA.2 k i j hin').1 (by omega),hz.1,q1_zero hp (numX_rng G hz.2.1 hz.2.2.1 hz.2.2.2)])
 unfold F36;rw[chk_ok (by omega) (by omega),ob,show a.Size - 1=((n - 1:Nat):Int) by omega,ixI_nat (show n - 1 < 8 by omega),ob];show(chk (Dg a (n - 1)+1)).bind _=_;rw[chk_ok (by omega) (by omega),ob,h1,ob,h2];simp only;rw[F74_eq d1 (by omega) d3,ob];simp only;rw[g1,ob,g2];rfl
theorem fX_small{a:GDga}{n:Nat}(G:GoodG a n):SmallF (fX a n):=by
 have n8:=G.n8;have t2:=G.top.2;refine⟨⟨by simp[fX,cX]; omega,by simp[fX,cX]; omega,fun m hm=>?_⟩,by simp[fX]; omega,fun l hl=>?_⟩
 ·obtain⟨d,_,rfl⟩:=List.mem_map.1 hm
  have h1:=memN_len a n ((d+1:Nat):Int);have h2:=memN_len a n (d:Int);refine⟨by simp[rowX]at h1 ⊢; omega,fun l hl=>?_⟩;obtain⟨i,_,rfl⟩:=List.mem_map.1 hl;rw[vecE_len]; omega
 ·obtain⟨d,_,rfl⟩:=List.mem_map.1 hl
  have h2:=memN_len a n (d:Int);simp[levX]; omega
theorem prod_same{a:GDga}{n:Nat}(G:GoodG a n)(hf:By 64 a.Diff.val)(ht:By 512 a.Table.val){d e:Nat}{u v:List Int}(hu:VecOK a.Prime (memN a n (d:Int)).length u)(hv:VecOK a.Prime (memN a n (e:Int)).length v)(hde:d+e≤1000):
  ∃x y z w,F256 a (d:Int) u=some x∧F256 a (e:Int) v=some y∧F177 a x y=some z∧F257 a ((d+e:Nat):Int) z=some w∧F252 a (d:Int) u (e:Int) v=some w∧VecOK a.Prime (memN a n ((d+e:Nat):Int)).length w:=by
 have n8:=G.n8;have hp:=G.p.range;obtain⟨x,x1,x2,x3,x4⟩:=elem_same G hu;obtain⟨y,y1,y2,y3,y4⟩:=elem_same G hv;obtain⟨z,z1,z2,z3⟩:=F177_eq hp ht x3 y3;obtain⟨z',q1,q2,q3⟩:=F199_eq hp ht G.s n8 x3 y3;have e1:=F257_eq G (mo_by hp.2 z2) ((d+e:Nat):Int);have e2:=F107_eq G (mo_by hp.2 q2) ((d+e:Nat):Int);have e3:vecE a n ((d+e:Nat):Int) z=vecE a n ((d+e:Nat):Int) z':=by
  unfold vecE;apply List.map_congr_left;intro i hi;have:=memN_mem.1 hi;rw[z3 i (by omega),q3 i (by omega),mul_cut n8 x4 y4]
 refine⟨⟨x⟩,⟨y⟩,⟨z⟩,_,x1,y1,z1,e1,?_,vecE_len ..,fun j hj=>?_⟩
 ·unfold F252
  rw[chk_ok (by omega) (by omega),ob,x2,ob,y2,ob,q1,ob,show(d:Int)+(e:Int)=((d+e:Nat):Int) by omega,e2,ob,e3]
 ·have:=vecE_at (a:=a) (n:=n) (u:=z) hj
  have hm:=memN_mem.1 (List.getElem_mem hj);have hz:=z2 (memN a n ((d+e:Nat):Int))[j] (by omega);unfold nth;rw[this]; exact hz
theorem F158_nil{a:GDga}{b:Bool}(h:F180 a=some b):F158 a []=some (if b=true then 0 else 1):=by
 unfold F158;rw[h,ob];cases b with
 |false=> rw[if_neg nt,if_neg nt]
 |true=>
  rw[if_pos rfl,if_pos rfl];have:forR 0 (([]:List (Ar .u8 8)).length:Int) (F158_1_B a []) (F158_1_D a []) ()=some (.inl ()):=by
   unfold forR;rw[if_pos (by simp)];rfl
  rw[this,ob]
theorem sum_mem{a:GDga}{d:Int}(g:Nat→Int):∀n,sumI (fun q=> g ((memN a n d).getD q 0)) (memN a n d).length=sumN (fun m=> if Dg a m=d then g m else 0) n
 |0=> rfl
 |n+1=> by
  rw[memN_succ,sumN];by_cases h:Dg a n=d
  ·rw[if_pos h,if_pos h,List.length_append,List.length_singleton]
   show sumI _ (memN a n d).length+g ((memN a n d++[n]).getD (memN a n d).length 0)=_;rw[←sum_mem g n]
   congr 1
   ·apply sumI_congr
    intro q hq;rw[List.getD_eq_getElem?_getD,List.getElem?_append_left hq,List.getD_eq_getElem?_getD]
   ·rw[List.getD_eq_getElem?_getD,List.getElem?_append_right (Nat.le_refl _)]; simp
  ·rw[if_neg h,if_neg h,sum_mem g n,Int.add_zero]
theorem dc_cX{a:GDga}{n:Nat}{d:Nat}(hd:d < tp a n+1):dc (cX a n) d=(memN a n (d:Int)).length:=by
 unfold dc; rw[dimX_at hd]; unfold dimX; omega
theorem rowX_ok{a:GDga}{n:Nat}(G:GoodG a n){d i:Nat}(hi:i < 8):VecOK a.Prime (memN a n (d:Int)).length (vecE a n (d:Int) (Df a i)):=⟨vecE_len ..,fun j hj=> by
 have n8:=G.n8;have hmM:=memN_mem.1 (List.getElem_mem hj);have:=vecE_at (u:=Df a i) hj;unfold nth;rw[this];exact G.dm i hi _ (by omega)⟩
theorem cX_valid{a:GDga}{n:Nat}(G:GoodG a n)(A:AlG a n):ValidC (cX a n):=by
 have n8:=G.n8;have hp:=G.p.range;have ht:=G.top.2;obtain⟨d1,d2,d3⟩:=dims_ok G;have hml:(cX a n).Maps.length=tp a n:=by simp[cX]
 refine⟨⟨G.p,⟨d1,by omega⟩,by omega,d3⟩,fun k hk=>?_,fun k h0 hk=>?_⟩
 ·rw[hml]at hk
  unfold TabAt;rw[rowX_at hk,dimX_at (by omega),dimX_at (by omega)];refine⟨by simp[rowX,dimX],fun row hrow=>?_⟩;obtain⟨i,hi,rfl⟩:=List.mem_map.1 hrow;have hmM:=memN_mem.1 hi;have R:=rowX_ok G (d:=k) (i:=i) (by omega);refine⟨by rw[R.len]; rfl,fun y hy=>?_⟩;obtain⟨j,hj,rfl⟩:=List.getElem_of_mem hy;rw[←nth_lt hj];exact R.rng j (by rw[←R.len]; exact hj)
 ·rw[hml]at hk
  obtain⟨e,rfl⟩:∃e,k=e+1:=⟨k - 1,by omega⟩;unfold SqAt;rw[rowX_at hk,Nat.add_sub_cancel,rowX_at (by omega),dimX_at (by omega)];show∀row∈_,∀y∈lin a.Prime (dimX a n e).toNat row _,y=0;intro row hrow y hy;obtain⟨i,hi,rfl⟩:=List.mem_map.1 hrow;have hmM:=memN_mem.1 hi;have R:=rowX_ok G (d:=e+1) (i:=i) (by omega);have hw:(dimX a n e).toNat=(memN a n (e:Int)).length:=by unfold dimX; omega
  rw[hw]at hy;have l1:=memN_len a n (e:Int);have l2:=memN_len a n ((e+1:Nat):Int);have H:LinOK a.Prime (memN a n (e:Int)).length (vecE a n ((e+1:Nat):Int) (Df a i)) (rowX a n e):=lin_okof G.p (c:=(memN a n ((e+1:Nat):Int)).length) (by simp[rowX]) (fun r hr=> by
   obtain⟨q,hq,rfl⟩:=List.mem_map.1 hr;have:=memN_mem.1 hq;exact rowX_ok G (by omega)) (by omega) (by omega) R
  have hll:=lin_len H;have V:=lin_vec H;obtain⟨j,hj,rfl⟩:=List.getElem_of_mem hy;have hj':j < (memN a n (e:Int)).length:=by omega
  have h1:=lin_at H hj';have hmj:=memN_mem.1 (List.getElem_mem hj');have key:dot (nth (vecE a n ((e+1:Nat):Int) (Df a i))) (rowX a n e) (vecE a n ((e+1:Nat):Int) (Df a i)).length j=sumN (fun m=>(Df a i).getD m 0*(Df a m).getD (memN a n (e:Int))[j] 0) n:=by
   rw[vecE_len];unfold dot;have e1:sumI (fun q=> nth (vecE a n ((e+1:Nat):Int) (Df a i)) q*nth (rowAt (rowX a n e) q) j) (memN a n ((e+1:Nat):Int)).length=sumI (fun q=>(fun m=>(Df a i).getD m 0*(Df a m).getD (memN a n (e:Int))[j] 0) ((memN a n ((e+1:Nat):Int)).getD q 0)) (memN a n ((e+1:Nat):Int)).length:=by
    apply sumI_congr;intro q hq;have g1:nth (vecE a n ((e+1:Nat):Int) (Df a i)) q=(Df a i).getD (memN a n ((e+1:Nat):Int))[q] 0:=vecE_at hq;have g2:rowAt (rowX a n e) q=vecE a n (e:Int) (Df a (memN a n ((e+1:Nat):Int))[q]):=rowX_row hq;have g3:nth (vecE a n (e:Int) (Df a (memN a n ((e+1:Nat):Int))[q])) j=(Df a (memN a n ((e+1:Nat):Int))[q]).getD (memN a n (e:Int))[j] 0:=vecE_at hj';have g4:(memN a n ((e+1:Nat):Int)).getD q 0=(memN a n ((e+1:Nat):Int))[q]:=by rw[List.getD_eq_getElem?_getD,List.getElem?_eq_getElem hq]; rfl
    rw[g1,g2,g3,g4]
   rw[e1,sum_mem (fun m=>(Df a i).getD m 0*(Df a m).getD (memN a n (e:Int))[j] 0) n];apply sumN_ext;intro m hmn;by_cases c:Dg a m=((e+1:Nat):Int)
   ·rw[if_pos c]
   ·rw[if_neg c]
    by_cases z:(Df a i).getD m 0=0
    ·rw[z,Int.zero_mul]
    ·have:=(G.dl i hmM.1 m (by omega) z).1
     exact absurd (show Dg a m=_ from this.trans (by omega)) c
  have hd:=(A i hmM.1).2.2.1 (memN a n (e:Int))[j] (by omega);unfold difF at hd;have h2:Cg a.Prime (sumN (fun m=>(Df a i).getD m 0*(Df a m).getD (memN a n (e:Int))[j] 0) n) 0:=by
   have:=Cg.mod a.Prime (sumN (fun m=>(Df a i).getD m 0*(Df a m).getD (memN a n (e:Int))[j] 0) n);rw[hd]at this;exact this.symm
  rw[key]at h1;have:=(h1.trans h2).eq (V.rng j hj').1 (V.rng j hj').2 (Int.le_refl _) (by omega)
  rwa[nth_lt hj]at this
theorem hp_same{a:GDga}(h:LongG a)(n i m j:Int):∃w c,F230 a n i m j=some ⟨w,c⟩∧F231 a n i m j=some ⟨w,c⟩∧w.length≤1000:=by
 obtain⟨b,b1,b2,b3⟩:=dga_same h;unfold F230 F231;rw[F158_nil b2,b1,ob,ob];cases b with
 |false=>
  rw[if_neg nt,if_neg nt];exact⟨[],1,if_neg (by decide),rfl,by simp⟩
 |true=>
  obtain⟨s,G,A⟩:=b3 rfl;have hf:=by_of h.f;have ht:=by_of h.t;have hS:=(fX_small G).c;have hv:=cX_valid G A;have n8:=G.n8;have hp:=G.p;have ht5:=G.top.2;have hDL:(cX a s).Dims.length=tp a s+1:=(dims_ok G).2.1;have hS':SmallC (cX a s):=hS;rw[if_pos rfl,if_pos rfl,if_pos rfl,F65_eq G hf,F36_eq G,ob,ob];show∃w c,(chk (((cX a s).Dims.length:Int) - 1)).bind _=_∧(F86 (cX a s)).bind _=_∧_;rw[F86_eq hS'.d,chk_ok (by omega) (by omega),ob,ob,F54_eq,F56_eq,ob,ob,hDL];by_cases hn:0≤n∧n≤((tp a s+1:Nat):Int) - 1
  rotate_left
  ·have:¬decide (0≤n∧n≤((tp a s+1:Nat):Int) - 1)=true:=by simpa using hn
   rw[if_neg this,if_neg this]; exact⟨[],2,rfl,rfl,by simp⟩
  have hn':decide (0≤n∧n≤((tp a s+1:Nat):Int) - 1)=true:=by simpa using hn
  rw[if_pos hn',if_pos hn',F54_eq,F56_eq,ob,ob];by_cases hmM:0≤m∧m≤((tp a s+1:Nat):Int) - 1
  rotate_left
  ·have:¬decide (0≤m∧m≤((tp a s+1:Nat):Int) - 1)=true:=by simpa using hmM
   rw[if_neg this,if_neg this]; exact⟨[],2,rfl,rfl,by simp⟩
  have hmM':decide (0≤m∧m≤((tp a s+1:Nat):Int) - 1)=true:=by simpa using hmM
  obtain⟨N,rfl⟩:∃k:Nat,n=k:=⟨n.toNat,by omega⟩;obtain⟨M,rfl⟩:∃k:Nat,m=k:=⟨m.toNat,by omega⟩;have hN:N < (cX a s).Dims.length:=by omega
  have hM:M < (cX a s).Dims.length:=by omega
  obtain⟨E,e1,e2,e3⟩:=holes_same hS' hv hN;obtain⟨T,t1,t2,t3⟩:=holes_same hS' hv hM;have hEl:=red_len e3;have hTl:=red_len t3;have dN:=dc_le hv N;have dM:=dc_le hv M;rw[if_pos hmM',if_pos hmM'];show∃w c,(F250 (cX a s) (N:Int)).bind _=_∧(F189 (cX a s) (N:Int)).bind _=_∧_;rw[e1,e2,ob,ob];show∃w c,(F250 (cX a s) (M:Int)).bind _=_∧(F189 (cX a s) (M:Int)).bind _=_∧_;rw[t1,t2,ob,ob,chk_ok (by omega) (by omega),ob,ob,F54_eq,F56_eq,ob,ob];by_cases hi:0≤i∧i≤(E.length:Int) - 1
  rotate_left
  ·have:¬decide (0≤i∧i≤(E.length:Int) - 1)=true:=by simpa using hi
   rw[if_neg this,if_neg this]; exact⟨[],2,rfl,rfl,by simp⟩
  have hi':decide (0≤i∧i≤(E.length:Int) - 1)=true:=by simpa using hi
  rw[if_pos hi',if_pos hi',chk_ok (by omega) (by omega),ob,ob,F54_eq,F56_eq,ob,ob];by_cases hj:0≤j∧j≤(T.length:Int) - 1
  rotate_left
  ·have:¬decide (0≤j∧j≤(T.length:Int) - 1)=true:=by simpa using hj
   rw[if_neg this,if_neg this]; exact⟨[],2,rfl,rfl,by simp⟩
  have hj':decide (0≤j∧j≤(T.length:Int) - 1)=true:=by simpa using hj
  obtain⟨I,rfl⟩:∃k:Nat,i=k:=⟨i.toNat,by omega⟩;obtain⟨J,rfl⟩:∃k:Nat,j=k:=⟨j.toNat,by omega⟩;have hI:I < E.length:=by omega
  have hJ:J < T.length:=by omega
  rw[if_pos hj',if_pos hj',chk_ok (by omega) (by omega),ob,ob];by_cases hs:(N:Int)+(M:Int)≤((tp a s+1:Nat):Int) - 1
  rotate_left
  ·rw[if_pos (by omega),if_pos (by omega)]; exact⟨[],0,rfl,rfl,by simp⟩
  rw[if_neg (by omega),if_neg (by omega)];have hNM:N+M < (cX a s).Dims.length:=by omega
  have hu:=e3.ok _ (List.getElem_mem hI);have hw:=t3.ok _ (List.getElem_mem hJ);rw[dc_cX (by omega)]at hu hw;obtain⟨x,y,z,w,p1,p2,p3,p4,p5,p6⟩:=prod_same G hf ht hu hw (by omega);obtain⟨W,w1,w2,w3⟩:=holes_same hS' hv hNM;obtain⟨B,o1,o2,o3⟩:=bounds_same hS' hv hNM;have dNM:=dc_le hv (N+M);have hWl:=red_len w3;have hBl:=red_len o3;rw[←dc_cX (by omega)]at p6;have hok:=rest_ok (show 0 < a.Prime by have:=hp.range; omega) o3.ok p6;rw[show(N:Int)+(M:Int)=((N+M:Nat):Int) by omega];show∃w c,(F251 (cX a s) ((N+M:Nat):Int)).bind _=_∧_;rw[o1,ob,getI_nat hI,ob,ob,getI_nat hJ,ob,p1,ob,ob,p2,ob,p3,ob,p4,ob,p5,ob];rw[show F134 a.Prime B w=some (rest a.Prime B w) from F134_eq hp.range o3 p6 (by omega) (by omega),ob];show∃w' c,(F250 (cX a s) ((N+M:Nat):Int)).bind _=_∧(F189 (cX a s) ((N+M:Nat):Int)).bind _=_∧_;rw[w1,w2,ob,ob];show∃w' c,_∧(F186 (cX a s) ((N+M:Nat):Int)).bind _=_∧_;rw[o2,ob];refine⟨leadsOf W (rest a.Prime B w),0,?_,?_,by unfold leadsOf; rw[List.length_map]; omega⟩
  ·rw[forR_map (l:=W) (B:=F230_1_B (fX a s) (rest a.Prime B w) W) (D:=F230_1_D (fX a s) (rest a.Prime B w) W) (s0:=[]) (fun t=> nth (rest a.Prime B w) (ld t)) (by omega) (fun k hk s3 hs3=> by
    have htl:=(w3.ok _ (List.getElem_mem hk)).len;have hone:=w3.one _ (List.getElem_mem hk);simp only[List.length_nil]at hs3;unfold F230_1_B;rw[getI_nat hk,ob,F81_ld (by omega),if_pos (by rw[htl]; exact hone.1),ob,nth_get (by rw[hok.len]; exact hone.1),ob,app_ok (by simp; omega) (by simp; omega),ob]) (fun _ _=> rfl),ob]
   rfl
  ·rw[show F188 a.Prime w W B=some (leadsOf W (rest a.Prime B w)) from F188_eq hp w3 o3 p6 (by omega),ob]
theorem law31{a:GDga}{n i m j:Int}(h:LongG a)(_:Long0 n)(_:Long0 i)(_:Long0 m)(_:Long0 j):L318 a n i m j:=by
 unfold L318;obtain⟨w,c,s1,s2,hw⟩:=hp_same h n i m j;obtain⟨l',mg,g1,g2⟩:=F31_mk (l:=w) (by omega) (k:=1) (by decide) (by decide);have g3:=g2.2.1;exact⟨a,w,c,(l',mg),F229_eq h,s1,s2,F30_same (by omega),g1,F32_held g2 (by decide) (by decide),by simp only; omega⟩
end Rv
