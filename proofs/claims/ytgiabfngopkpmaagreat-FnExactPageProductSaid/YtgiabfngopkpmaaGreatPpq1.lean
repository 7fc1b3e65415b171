/- The plain law: what the typed functions answer: part 2 -/
import Derived.Test.YtgiabfngopkpmaaGreatPpq0
namespace Rv
set_option linter.unusedVariables false
set_option linter.unusedSimpArgs false
set_option maxRecDepth 10000
theorem forI_inv{σ τ:Type}{B:Int→σ→Option (σ⊕τ)}{D:Int→σ→Option τ}(Inv:Nat→σ→Prop)(Q:τ→Prop)(n:Nat):
  ∀ (k i:Nat) (s:σ),i+k=n→Inv i s→(∀i s,i < n→Inv i s→(∃s',B i s=some (.inl s')∧Inv (i+1) s')∨∃t,B i s=some (.inr t)∧Q t)→(∀s,Inv n s→∃t,D n s=some t∧Q t)→∃t,forI B D k i s=some t∧Q t:=by
 intro k;induction k with
 |zero=>
  intro i s hk hI hb hd;have:i=n:=by omega
  subst this;exact hd s hI
 |succ k ih=>
  intro i s hk hI hb hd;simp only[forI];rcases hb i s (by omega) hI with⟨s',h1,h2⟩|⟨t,h1,h2⟩
  ·rw[h1]
   have:=ih (i+1) s' (by omega) h2 hb hd;simpa using this
  ·rw[h1]; exact⟨t,rfl,h2⟩
theorem qt{σ τ:Type}{B:Int→σ→Option (σ⊕τ)}{D:Int→σ→Option τ}{hi:Int}(n:Nat)(hn:hi=n)(hs:n < 4611686018427387904)(Inv:Nat→σ→Prop)(Q:τ→Prop){s:σ}(h0:Inv 0 s)
  (hb:∀ (i:Nat) s,i < n→Inv i s→(∃s',B i s=some (.inl s')∧Inv (i+1) s')∨∃t,B i s=some (.inr t)∧Q t) (hd:∀s,Inv n s→∃t,D n s=some t∧Q t):∃t,forR 0 hi B D s=some t∧Q t:=by
 subst hn;unfold forR;rw[if_pos (by omega)];have e:((n:Int) - 0).toNat=n:=by omega
 rw[e];exact forI_inv Inv Q n n 0 s (by omega) h0 hb hd
theorem forR_from{σ τ:Type}{B:Int→σ→Option (σ⊕τ)}{D:Int→σ→Option τ}{lo hi:Int}(l n:Nat)(hl:lo=l)(hn:hi=n)(hln:l≤n)(hs:n < 4611686018427387904)(Inv:Nat→σ→Prop)(Q:τ→Prop){s:σ}(h0:Inv l s)
  (hb:∀ (i:Nat) s,i < n→Inv i s→(∃s',B i s=some (.inl s')∧Inv (i+1) s')∨∃t,B i s=some (.inr t)∧Q t) (hd:∀s,Inv n s→∃t,D n s=some t∧Q t):∃t,forR lo hi B D s=some t∧Q t:=by
 subst hn; subst hl;unfold forR;rw[if_pos (by omega)];have e:((n:Int) - (l:Int)).toNat=n - l:=by omega
 rw[e];exact forI_inv Inv Q n (n - l) l s (by omega) h0 hb hd
theorem zV{σ τ:Type}{S:σ→Option (σ⊕τ)}(μ:σ→Nat)(Inv:σ→Prop)(Q:τ→Prop){s:σ}(h0:Inv s)
  (hb:∀s,Inv s→(∃s',S s=some (.inl s')∧Inv s'∧μ s' < μ s)∨∃t,S s=some (.inr t)∧Q t):∃t,zD S s=some t∧Q t:=by
 suffices∀k s,μ s≤k→Inv s→∃t,zD S s=some t∧Q t from this _ s (wG _) h0
 intro k;induction k with
 |zero=>
  intro s hk hI;rcases hb s hI with⟨s',h1,h2,h3⟩|⟨t,h1,h2⟩
  ·omega
  ·exact⟨t,loopW_eq.2 (.inr h1),h2⟩
 |succ k ih=>
  intro s hk hI;rcases hb s hI with⟨s',h1,h2,h3⟩|⟨t,h1,h2⟩
  ·obtain⟨t,h4,h5⟩:=ih s' (by omega) h2
   exact⟨t,loopW_eq.2 (.inl ⟨s',h1,h4⟩),h5⟩
  ·exact⟨t,loopW_eq.2 (.inr h1),h2⟩
theorem qn{α:Type}{l:List α}{i:Nat}(h:i < l.length):getI l (i:Int)=some l[i]:=by
 unfold getI;rw[if_pos (by omega)];simp[h]
theorem qz{α:Type}{l:List α}{i:Nat}(h:i < l.length)(d:α):getI l (i:Int)=some (l.getD i d):=by
 rw[qn h]; simp[h]
theorem qo{n:Int}(h0: -9223372036854775808≤n)(h1:n < 9223372036854775808):chk n=some n:=by
 unfold chk; rw[if_pos ⟨h0,h1⟩]
theorem zu{α:Type}{l:List α}{i:Nat}(h:i < l.length)(y:α):setI l (i:Int) y=some (l.set i y):=by
 unfold setI;rw[if_pos (by omega),vR]
theorem jk{a b:Int}(h:b≠0):remI a b=some (a.tmod b):=by unfold remI; rw[if_neg h]
theorem mkL_ok{α:Type}{b:Nat}{n:Int}{z:α}(k:Nat)(hn:n=k)(h:k*b≤1099511627776)(h2:k≤1099511627776):mkL b n z=some (List.replicate k z):=by
 subst hn;unfold mkL;rw[if_pos ⟨by omega,by omega,by omega⟩,vR]
theorem qN{α:Type}{b:Nat}{l l':List α}(h:(l.length+l'.length)*b≤1099511627776)(h2:l.length+l'.length≤1099511627776):app b l l'=some (l++l'):=by
 unfold app; rw[if_pos ⟨h,h2⟩]
def qX(o:Option Bool)(P:Prop):Prop:=∃b,o=some b∧(b=true↔P)
theorem qX.of_true{o:Option Bool}{P:Prop}(h:o=some true)(p:P):qX o P:=⟨true,h,by simp[p]⟩
theorem qX.of_false{o:Option Bool}{P:Prop}(h:o=some false)(p:¬P):qX o P:=⟨false,h,by simp[p]⟩
theorem qX.iff{o:Option Bool}{P Q:Prop}(h:qX o P)(e:P↔Q):qX o Q:=by
 obtain⟨b,h1,h2⟩:=h; exact⟨b,h1,h2.trans e⟩
theorem qX.same{o o':Option Bool}{P:Prop}(h:qX o P)(h':qX o' P):∃b,o=some b∧o'=some b∧(b=true↔P):=by
 obtain⟨b,h1,h2⟩:=h;obtain⟨b',h3,h4⟩:=h';have:b=b':=by rw[uT]; exact h2.trans h4.symm
 exact⟨b,h1,by rw[this]; exact h3,h2⟩
theorem qX.case{o:Option Bool}{P:Prop}(h:qX o P):(o=some true∧P)∨(o=some false∧¬P):=by
 obtain⟨b,h1,h2⟩:=h;cases b with
 |true=> exact .inl ⟨h1,h2.1 rfl⟩
 |false=> exact .inr ⟨h1,fun p=> by have:=h2.2 p; cases this⟩
theorem qX.dec{o:Option Bool}{P:Prop}[Decidable P](h:o=some (decide P)):qX o P:=⟨decide P,h,by simp⟩
def IsP(p:Int):Prop:=p=2∨p=3∨p=5∨p=7
theorem IsP.range{p:Int}(h:IsP p):2≤p∧p≤7:=by unfold IsP at h; omega
def RowOK(p w:Int)(row:List Int):Prop:=(row.length:Int)=w∧∀x∈row,0≤x∧x < p
def TableOK(p c w:Int)(m:List (List Int)):Prop:=(m.length:Int)=c∧∀row∈m,RowOK p w row
theorem xg(n lo hi:Int):F54 n lo hi=some (decide (lo≤n∧n≤hi)):=by
 unfold F54; by_cases h:lo≤n <;> simp[h]
theorem jM(n lo hi:Int):F56 n lo hi=some (decide (lo≤n∧n≤hi)):=by
 unfold F56; by_cases h:lo≤n <;> simp[h]
theorem F78_tells(p:Int):qX (F78 p) (IsP p):=by
 unfold F78 IsP;split
 ·exact .of_true rfl (by omega)
 split
 ·exact .of_true rfl (by omega)
 split
 ·exact .of_true rfl (by omega)
 ·exact⟨_,rfl,by simp; omega⟩
theorem F67_tells(p:Int):qX (F67 p) (IsP p):=by
 unfold F67 IsP;split
 ·exact .of_true rfl (by omega)
 split
 ·exact .of_true rfl (by omega)
 split
 ·exact .of_true rfl (by omega)
 ·exact⟨_,rfl,by simp; omega⟩
theorem F79_2{p w:Int}{m:List (List Int)}(hp:2≤p∧p≤7){i:Nat}(hi:i < m.length)(hs:m[i].length≤1099511627776):
  ∃t,zD (F79_2_S p m w i) 0=some t∧((t= .inl ()∧∀x∈m[i],0≤x∧x < p)∨(t= .inr false∧¬∀x∈m[i],0≤x∧x < p)):=by
 refine zV (fun j:Int=>(m[i].length - j).toNat) (fun j=>∃n:Nat,j=n∧n≤m[i].length∧∀k (hk:k < n) (h2:k < m[i].length),0≤m[i][k]∧m[i][k] < p) _ ⟨0,rfl,by omega,fun k hk=> by omega⟩ ?_;rintro _ ⟨n,rfl,hn,hall⟩;unfold F79_2_S;simp only[qn hi,ob];by_cases hlt:(n:Int) < m[i].length
 ·have hnl:n < m[i].length:=by omega
  simp only[if_pos hlt,qn hnl,ob,qo (show(-9223372036854775808:Int)≤p - 1 by omega) (show p - 1 < 9223372036854775808 by omega),xg];by_cases hx:0≤m[i][n]∧m[i][n]≤p - 1
  ·left
   refine⟨n+1,?_,⟨n+1,rfl,hnl,fun k hk h2=>?_⟩,by omega⟩
   ·simp only[hx,and_self,decide_true,if_true,qo (show(-9223372036854775808:Int)≤(n:Int)+1 by omega) (show(n:Int)+1 < 9223372036854775808 by omega),ob]
   ·by_cases e:k=n
    ·subst e; omega
    ·exact hall k (by omega) h2
  ·right
   refine⟨.inr false,?_,.inr ⟨rfl,fun ha=> hx ?_⟩⟩
   ·simp[hx]
   ·have:=ha _ (wF hnl); omega
 ·right
  refine⟨.inl (),by simp only[if_neg hlt],.inl ⟨rfl,fun x hx=>?_⟩⟩;obtain⟨k,hk,rfl⟩:=vL hx;exact hall k (by omega) hk
theorem F79_tells{p c w:Int}{m:List (List Int)}(hp:2≤p∧p≤7)(hm:m.length≤1099511627776)(hs:∀r∈m,r.length≤1099511627776):qX (F79 p m c w) (TableOK p c w m):=by
 unfold F79;by_cases hc:(m.length:Int)=c
 case neg=> rw[if_neg hc]; exact .of_false rfl fun h=> hc h.1
 rw[if_pos hc];obtain⟨t,h1,h2⟩:=qt (B:=F79_1_B p m w) (D:=F79_1_D p m w) (hi:=m.length) m.length rfl (by omega) (fun i _=>∀k (hk:k < i) (h2:k < m.length),RowOK p w m[k]) (fun t=>(t= .inl ()∧∀r∈m,RowOK p w r)∨(t= .inr false∧¬∀r∈m,RowOK p w r)) (s:=()) (fun k hk=> by omega) (fun i _ hi hI=> by
  unfold F79_1_B;simp only[qn hi,ob];by_cases hw:(m[i].length:Int)=w
  ·rw[if_pos hw]
   obtain⟨t,h1,h2⟩:=F79_2 (w:=w) hp hi (hs _ (wF hi));rw[h1];rcases h2 with⟨rfl,h2⟩|⟨rfl,h2⟩
   ·left
    refine⟨(),rfl,fun k hk h3=>?_⟩;by_cases e:k=i
    ·subst e; exact⟨hw,h2⟩
    ·exact hI k (by omega) h3
   ·right
    exact⟨_,rfl,.inr ⟨rfl,fun ha=> h2 (ha _ (wF hi)).2⟩⟩
  ·rw[if_neg hw]
   right;exact⟨_,rfl,.inr ⟨rfl,fun ha=> hw (ha _ (wF hi)).1⟩⟩) (fun _ hI=>⟨.inl (),rfl,.inl ⟨rfl,fun r hr=> by
    obtain⟨k,hk,rfl⟩:=vL hr;exact hI k hk hk⟩⟩)
 rw[h1];rcases h2 with⟨rfl,h2⟩|⟨rfl,h2⟩
 ·exact .of_true rfl ⟨hc,h2⟩
 ·exact .of_false rfl fun h=> h2 h.2
def addRow(p x:Int)(out row:List Int):List Int:=List.zipWith (fun o y=>(o+x*y).tmod p) out row
def linN(p:Int)(n:Nat)(v:List Int)(m:List (List Int)):Nat→List Int
 |0=> List.replicate n 0
 |i+1=> addRow p (v.getD i 0) (linN p n v m i) (m.getD i [])
def lin(p:Int)(n:Nat)(v:List Int)(m:List (List Int)):List Int:=linN p n v m v.length
structure LinOK (p:Int) (n:Nat) (v:List Int) (m:List (List Int)):Prop where
 hp:2≤p∧p≤7
 hv:∀x∈v,0≤x∧x < p
 hl:v.length≤m.length
 hr:∀l∈m,l.length=n∧∀y∈l,0≤y∧y < p
 hn:n≤1048576
 hvl:v.length≤1048576
theorem small_mul{p x y o:Int}(hp:2≤p∧p≤7)(hx:0≤x∧x < p)(hy:0≤y∧y < p)(ho:0≤o∧o < p):
  chk (x*y)=some (x*y)∧chk (o+x*y)=some (o+x*y)∧0≤(o+x*y).tmod p∧(o+x*y).tmod p < p:=by
 have h1:0≤x*y:=Int.mul_nonneg hx.1 hy.1;have h2:x*y≤6*6:=Int.mul_le_mul (by omega) (by omega) hy.1 (by omega);exact⟨qo (by omega) (by omega),qo (by omega) (by omega),Int.tmod_nonneg _ (by omega),Int.tmod_lt_of_pos _ (by omega)⟩
theorem jR{p x:Int}{out row:List Int}(h:row.length=out.length):(addRow p x out row).length=out.length:=by simp[addRow,h]
theorem addRow_ok{p x:Int}(hp:2≤p∧p≤7)(hx:0≤x∧x < p){out row:List Int}(ho:∀o∈out,0≤o∧o < p)(hy:∀y∈row,0≤y∧y < p):∀o∈addRow p x out row,0≤o∧o < p:=by
 intro o hm;unfold addRow at hm;obtain⟨i,hi,rfl⟩:=vL hm;simp at hi ⊢;exact(small_mul hp hx (hy _ (wF (by omega))) (ho _ (wF (by omega)))).2.2
theorem linN_ok{p:Int}{n:Nat}{v:List Int}{m:List (List Int)}(H:LinOK p n v m):∀i,i≤v.length→(linN p n v m i).length=n∧∀o∈linN p n v m i,0≤o∧o < p:=by
 intro i;induction i with
 |zero=> intro _; refine⟨by simp[linN],fun o ho=>?_⟩; simp[linN]at ho; obtain⟨_,rfl⟩:=ho; have:=H.hp; omega
 |succ i ih=>
  intro hi;obtain⟨h1,h2⟩:=ih (by omega);have e1:v.getD i 0=v[i]:=by simp[show i < v.length by omega]
  have hm:i < m.length:=by have:=H.hl; omega
  have e2:m.getD i []=m[i]:=by simp[hm]
  have hr:=H.hr _ (wF hm);simp only[linN,e1,e2];exact⟨by rw[jR (by rw[hr.1,h1]),h1],addRow_ok H.hp (H.hv _ (wF _)) h2 hr.2⟩
def upTo(p x:Int)(out row:List Int)(k:Nat):List Int:=(addRow p x out row).take k++out.drop k
theorem upTo_len{p x:Int}{out row:List Int}(h:row.length=out.length)(k:Nat)(hk:k≤out.length):(upTo p x out row k).length=out.length:=by
 simp[upTo,jR h]; omega
theorem upTo_at{p x:Int}{out row:List Int}(h:row.length=out.length){k:Nat}(hk:k < out.length)(h2:k < (upTo p x out row k).length):(upTo p x out row k)[k]=out[k]:=by
 have e:(upTo p x out row k)[k]? =some out[k]:=by
  unfold upTo;rw[List.getElem?_append_right (by simp[jR h]; omega)];simp[jR h,uS (Nat.le_of_lt hk),hk]
 rw[List.getElem?_eq_getElem h2]at e;exact wA e
theorem upTo_set{p x:Int}{out row:List Int}(h:row.length=out.length){k:Nat}(hk:k < out.length):
  (upTo p x out row k).set k ((out[k]+x*(row[k]'(by omega))).tmod p)=upTo p x out row (k+1):=by
 have hl:=jR (p:=p) (x:=x) h;unfold upTo;rw[uA _ _ (by simp[hl]; omega),List.take_succ_eq_append_getElem (by omega:k < (addRow p x out row).length)];have e1:((addRow p x out row).take k).length=k:=by simp[hl]; omega
 rw[e1,Nat.sub_self];simp[addRow];rw[yB hk];rfl
theorem upTo_zero{p x:Int}{out row:List Int}:upTo p x out row 0=out:=by simp[upTo]
theorem upTo_all{p x:Int}{out row:List Int}(h:row.length=out.length):upTo p x out row out.length=addRow p x out row:=by
 have hl:=jR (p:=p) (x:=x) h;unfold upTo;rw[wZ (by omega),List.drop_of_length_le (by omega),wB]
theorem F80_eq{p:Int}{n:Nat}{v:List Int}{m:List (List Int)}(H:LinOK p n v m){w:Int}(hw:w=n):F80 p m v w=some (lin p n v m):=by
 have hn:=H.hn;have hvl:=H.hvl;have hlm:=H.hl;unfold F80;rw[mkL_ok n hw (by omega) (by omega),ob];obtain⟨t,h1,rfl⟩:=qt (B:=F80_1_B p m v) (D:=F80_1_D p m v) (hi:=v.length) v.length rfl (by omega) (fun i s=> s=linN p n v m i) (fun t=> t=lin p n v m) (s:=List.replicate n 0) rfl (fun i s hi hI=> by
  subst hI;left;obtain⟨q1,q2⟩:=linN_ok H i (by omega);have hm:i < m.length:=by omega
  obtain⟨r1,r2⟩:=H.hr _ (wF hm);have hx:=H.hv _ (wF hi);have e1:v.getD i 0=v[i]:=by simp[hi]
  have e2:m.getD i []=m[i]:=by simp[hm]
  refine⟨_,?_,rfl⟩;unfold F80_1_B;have hlen:m[i].length=(linN p n v m i).length:=by omega
  obtain⟨t,h1,rfl⟩:=zV (S:=F80_2_S p m v i) (fun s=>(n - s.2).toNat) (fun s=>∃k:Nat,k≤n∧s=(upTo p v[i] (linN p n v m i) m[i] k,(k:Int))) (fun t=> t=linN p n v m (i+1)) (s:=(linN p n v m i,0)) ⟨0,by omega,by rw[upTo_zero]; rfl⟩ (by
   rintro _ ⟨k,hk,rfl⟩;unfold F80_2_S;have hul:=upTo_len (p:=p) (x:=v[i]) hlen k (by omega);simp only;by_cases hlt:(k:Int) < (upTo p v[i] (linN p n v m i) m[i] k).length
   ·rw[if_pos hlt]
    have hk1:k < (upTo p v[i] (linN p n v m i) m[i] k).length:=by omega
    have hk2:k < (linN p n v m i).length:=by omega
    have hk3:k < m[i].length:=by omega
    obtain⟨s1,s2,s3,s4⟩:=small_mul H.hp hx (r2 _ (wF hk3)) (q2 _ (wF hk2));have hp0:p≠0:=by have:=H.hp; omega
    left;refine⟨(upTo p v[i] (linN p n v m i) m[i] (k+1),((k+1:Nat):Int)),?_,⟨k+1,by omega,rfl⟩,by simp only; omega⟩;simp only[qn hk1,upTo_at hlen hk2 hk1,qn hi,qn hm,qn hk3,ob,s1,s2,jk hp0,zu hk1,upTo_set hlen hk2,qo (show(-9223372036854775808:Int)≤(k:Int)+1 by omega) (show(k:Int)+1 < 9223372036854775808 by omega)];rfl
   ·rw[if_neg hlt]
    right;have hkn:k=(linN p n v m i).length:=by omega
    refine⟨_,rfl,?_⟩;rw[hkn,upTo_all hlen];simp only[linN,e1,e2])
  rw[h1];rfl) (fun s hI=>⟨_,rfl,hI⟩)
 rw[h1];rfl
theorem F119_2_eq{p:Int}{n:Nat}{v:List Int}{m:List (List Int)}(H:LinOK p n v m){i:Nat}(hi:i < v.length)(hm:i < m.length):
  forR 0 (m[i].length:Int) (F119_2_B p v m i v[i] m[i]) (F119_2_D p v m i v[i] m[i]) (linN p n v m i)=some (linN p n v m (i+1)):=by
 have hn:=H.hn;obtain⟨q1,q2⟩:=linN_ok H i (by omega);obtain⟨r1,r2⟩:=H.hr _ (wF hm);have hx:=H.hv _ (wF hi);have e1:v.getD i 0=v[i]:=by simp[hi]
 have e2:m.getD i []=m[i]:=by simp[hm]
 have hlen:m[i].length=(linN p n v m i).length:=by omega
 have hp0:p≠0:=by have:=H.hp; omega
 obtain⟨t,h1,rfl⟩:=qt (B:=F119_2_B p v m i v[i] m[i]) (D:=F119_2_D p v m i v[i] m[i]) (hi:=m[i].length) m[i].length rfl (by omega) (fun k s=> s=upTo p v[i] (linN p n v m i) m[i] k) (fun t=> t=linN p n v m (i+1)) (s:=linN p n v m i) upTo_zero.symm (by
  intro k s hk hI;subst hI;left;have hul:=upTo_len (p:=p) (x:=v[i]) hlen k (by omega);have hk1:k < (upTo p v[i] (linN p n v m i) m[i] k).length:=by omega
  have hk2:k < (linN p n v m i).length:=by omega
  obtain⟨s1,s2,s3,s4⟩:=small_mul H.hp hx (r2 _ (wF hk)) (q2 _ (wF hk2));refine⟨_,?_,rfl⟩;unfold F119_2_B;simp only[qn hk,qn hk1,upTo_at hlen hk2 hk1,ob,s1,s2,jk hp0,zu hk1,upTo_set hlen hk2]) (by
  intro s hI;refine⟨s,rfl,?_⟩;rw[hI,hlen,upTo_all hlen];simp only[linN,e1,e2])
 exact h1
theorem F119_1_eq{p:Int}{n:Nat}{v:List Int}{m:List (List Int)}(H:LinOK p n v m)(i:Nat)(hi:i < v.length):F119_1_B p v m (i:Int) (linN p n v m i)=some (.inl (linN p n v m (i+1))):=by
 have hlm:=H.hl;have hm:i < m.length:=by omega
 unfold F119_1_B;rw[qn hi,ob,qn hm,ob,F119_2_eq H hi hm,ob]
theorem F119_eq{p:Int}{n:Nat}{v:List Int}{m:List (List Int)}(H:LinOK p n v m){w:Int}(hw:w=n):F119 p w v m=some (lin p n v m):=by
 have hn:=H.hn;have hvl:=H.hvl;have hs:v.length < 4611686018427387904:=by omega
 unfold F119;rw[mkL_ok n hw (by omega) (by omega),ob];obtain⟨t,h1,rfl⟩:=qt (B:=F119_1_B p v m) (D:=F119_1_D p v m) (hi:=v.length) v.length rfl hs (fun i s=> s=linN p n v m i) (fun t=> t=lin p n v m) (s:=List.replicate n 0) rfl (by
  intro i s hi hI;subst hI;left;exact⟨_,F119_1_eq H i hi,rfl⟩) (fun s hI=>⟨s,by unfold F119_1_D; rfl,hI⟩)
 rw[h1,ob]
theorem F115_eq{l:List Int}{f:Int→Option Bool}(P:Int→Bool)(hl:l.length≤1099511627776)(hf:∀x∈l,f x=some (P x)):∃i:Int,F115 l f=some i∧(0≤i↔∃x∈l,P x=true):=by
 unfold F115;have hs:l.length < 4611686018427387904:=by omega
 obtain⟨t,h1,h2⟩:=qt (B:=xO l f) (D:=F115_1_D l f) (hi:=l.length) l.length rfl hs (fun i _=>∀k (hk:k < i) (h2:k < l.length),P l[k]=false) (fun t=>(t= .inl ()∧∀x∈l,P x=false)∨∃i:Nat,t= .inr (i:Int)∧∃x∈l,P x=true) (s:=()) (fun k hk=> by omega) (by
  intro i _ hi hI;unfold xO;rw[qn hi,ob,hf _ (wF hi),ob];cases hp:P l[i]with
  |true=> right; exact⟨_,rfl,.inr ⟨i,rfl,_,wF hi,hp⟩⟩
  |false=>
   left;refine⟨(),rfl,fun k hk h2=>?_⟩;by_cases e:k=i
   ·subst e; exact hp
   ·exact hI k (by omega) h2) (by
  intro _ hI;refine⟨.inl (),rfl,.inl ⟨rfl,fun x hx=>?_⟩⟩;obtain⟨k,hk,rfl⟩:=vL hx;exact hI k hk hk)
 rw[h1];rcases h2 with⟨rfl,h2⟩|⟨i,rfl,h2⟩
 ·exact⟨-1,rfl,⟨fun h=> by omega,fun⟨x,hx,hp⟩=> by rw[h2 x hx]at hp; cases hp⟩⟩
 ·exact⟨i,rfl,⟨fun _=> h2,fun _=> Int.natCast_nonneg i⟩⟩
theorem F82_eq{l:List Int}{f:Int→Option Bool}(P:Int→Bool)(hl:l.length≤1099511627776)(hf:∀x∈l,f x=some (P x)):F82 l f=some (l.any P):=by
 obtain⟨i,h1,h2⟩:=F115_eq P hl hf;unfold F82;rw[h1,ob];have:decide (0≤i)=l.any P:=by
  rw[uT];simp only[decide_eq_true_eq,uJ];exact h2
 rw[this]
theorem F128_eq{l:List (List Int)}{f:List Int→Option Bool}(P:List Int→Bool)(hl:l.length≤1099511627776)(hf:∀x∈l,f x=some (P x)):∃i:Int,F128 l f=some i∧(0≤i↔∃x∈l,P x=true):=by
 unfold F128;have hs:l.length < 4611686018427387904:=by omega
 obtain⟨t,h1,h2⟩:=qt (B:=xM l f) (D:=F128_1_D l f) (hi:=l.length) l.length rfl hs (fun i _=>∀k (hk:k < i) (h2:k < l.length),P l[k]=false) (fun t=>(t= .inl ()∧∀x∈l,P x=false)∨∃i:Nat,t= .inr (i:Int)∧∃x∈l,P x=true) (s:=()) (fun k hk=> by omega) (by
  intro i _ hi hI;unfold xM;rw[qn hi,ob,hf _ (wF hi),ob];cases hp:P l[i]with
  |true=> right; exact⟨_,rfl,.inr ⟨i,rfl,_,wF hi,hp⟩⟩
  |false=>
   left;refine⟨(),rfl,fun k hk h2=>?_⟩;by_cases e:k=i
   ·subst e; exact hp
   ·exact hI k (by omega) h2) (by
  intro _ hI;refine⟨.inl (),rfl,.inl ⟨rfl,fun x hx=>?_⟩⟩;obtain⟨k,hk,rfl⟩:=vL hx;exact hI k hk hk)
 rw[h1];rcases h2 with⟨rfl,h2⟩|⟨i,rfl,h2⟩
 ·exact⟨-1,rfl,⟨fun h=> by omega,fun⟨x,hx,hp⟩=> by rw[h2 x hx]at hp; cases hp⟩⟩
 ·exact⟨i,rfl,⟨fun _=> h2,fun _=> Int.natCast_nonneg i⟩⟩
theorem F117_eq{l:List (List Int)}{f:List Int→Option Bool}(P:List Int→Bool)(hl:l.length≤1099511627776)(hf:∀x∈l,f x=some (P x)):F117 l f=some (l.any P):=by
 obtain⟨i,h1,h2⟩:=F128_eq P hl hf;unfold F117;rw[h1,ob];have:decide (0≤i)=l.any P:=by
  rw[uT];simp only[decide_eq_true_eq,uJ];exact h2
 rw[this]
def rowB(p w:Int)(row:List Int):Bool:=decide ((row.length:Int)=w)&& row.all fun x=> decide (0≤x∧x < p)
theorem rowB_iff{p w:Int}{row:List Int}:rowB p w row=true↔RowOK p w row:=by
 unfold rowB RowOK;simp only[vF,decide_eq_true_eq,vK]
theorem F130_eq{p:Int}(hp:2≤p∧p≤7)(x:Int):F130 x p=some (!decide (0≤x∧x < p)):=by
 unfold F130;rw[qo (by omega) (by omega),ob,jM,ob]
 congr 3
 exact propext ⟨fun h=>⟨h.1,by omega⟩,fun h=>⟨h.1,by omega⟩⟩
theorem F129_eq{p w:Int}(hp:2≤p∧p≤7){l:List Int}(hl:l.length≤1099511627776):F129 p w l=some (rowB p w l):=by
 unfold F129 rowB;by_cases h:(l.length:Int)=w
 ·rw[if_pos h,F82_eq (fun x=> !decide (0≤x∧x < p)) hl (fun x _=> F130_eq hp x),ob]
  simp[h,List.not_any_eq_all_not]
 ·rw[if_neg h]; simp[h]
theorem F116_eq{p w:Int}(hp:2≤p∧p≤7){l:List Int}(hl:l.length≤1099511627776):F116 l p w=some (!rowB p w l):=by
 unfold F116; rw[F129_eq hp hl,ob]
theorem F90_eq{p w:Int}(hp:2≤p∧p≤7){m:List (List Int)}(hm:m.length≤1099511627776)(hs:∀r∈m,r.length≤1099511627776):F90 p w m=some (m.all (rowB p w)):=by
 unfold F90;rw[F117_eq (fun r=> !rowB p w r) hm (fun r hr=> F116_eq hp (hs r hr)),ob];simp[List.not_any_eq_all_not]
theorem F90_tells{p w:Int}(hp:2≤p∧p≤7){m:List (List Int)}(hm:m.length≤1099511627776)(hs:∀r∈m,r.length≤1099511627776):qX (F90 p w m) (∀r∈m,RowOK p w r):=
 ⟨_,F90_eq hp hm hs,by simp only[vK,rowB_iff]⟩
theorem F92_tells{l:List Int}(hl:l.length≤1099511627776):qX (F92 l) (∀x∈l,x=0):=by
 unfold F92;have h:F82 l (fun x=> F118 x)=some (l.any fun x=> !decide (x=0)):=F82_eq _ hl (fun x _=> rfl);rw[h,ob];exact⟨_,rfl,by simp[List.not_any_eq_all_not]⟩
theorem F81_tells{l:List Int}(hl:l.length≤1099511627776):∃i,F81 l=some i∧(0≤i↔¬∀x∈l,x=0):=by
 unfold F81;have hs:l.length < 4611686018427387904:=by omega
 obtain⟨t,h1,h2⟩:=qt (B:=F81_1_B l) (D:=F81_1_D l) (hi:=l.length) l.length rfl hs (fun i _=>∀k (hk:k < i) (h2:k < l.length),l[k]=0) (fun t=>(t= .inl ()∧∀x∈l,x=0)∨∃i:Nat,t= .inr (i:Int)∧¬∀x∈l,x=0) (s:=()) (fun k hk=> by omega) (by
  intro i _ hi hI;unfold F81_1_B;rw[qn hi,ob];by_cases hp:l[i]=0
  ·rw[if_pos hp]
   left;refine⟨(),rfl,fun k hk h2=>?_⟩;by_cases e:k=i
   ·subst e; exact hp
   ·exact hI k (by omega) h2
  ·rw[if_neg hp]
   right;exact⟨_,rfl,.inr ⟨i,rfl,fun ha=> hp (ha _ (wF hi))⟩⟩) (by
  intro _ hI;refine⟨.inl (),rfl,.inl ⟨rfl,fun x hx=>?_⟩⟩;obtain⟨k,hk,rfl⟩:=vL hx;exact hI k hk hk)
 rw[h1];rcases h2 with⟨rfl,h2⟩|⟨i,rfl,h2⟩
 ·exact⟨-1,rfl,⟨fun h=> by omega,fun h=> absurd h2 h⟩⟩
 ·exact⟨i,rfl,⟨fun _=> h2,fun _=> Int.natCast_nonneg i⟩⟩
structure xf (x:qh):Prop where
 d:x.Dims.length≤1048576
 m:x.Maps.length≤1048576
 r:∀m∈x.Maps,m.length≤1048576∧∀l∈m,l.length≤1048576
structure ShapeC (x:qh):Prop where
 p:IsP x.Prime
 dl:1≤x.Dims.length∧x.Dims.length≤6
 ml:x.Maps.length+1=x.Dims.length
 dims:∀d∈x.Dims,0≤d∧d≤8
def xq(x:qh)(k:Nat):Prop:=TableOK x.Prime (x.Dims.getD (k+1) 0) (x.Dims.getD k 0) (x.Maps.getD k [])
def SqAt(x:qh)(k:Nat):Prop:=∀row∈x.Maps.getD k [],∀y∈lin x.Prime (x.Dims.getD (k - 1) 0).toNat row (x.Maps.getD (k - 1) []),y=0
structure xA (x:qh):Prop extends ShapeC x where
 tab:∀k,k < x.Maps.length→xq x k
 sq:∀k,0 < k→k < x.Maps.length→SqAt x k
theorem lin_len{p:Int}{n:Nat}{v:List Int}{m:List (List Int)}(H:LinOK p n v m):(lin p n v m).length=n:=(linN_ok H _ (wG _)).1
theorem linOK_of{x:qh}(hs:ShapeC x){k:Nat}(h1:0 < k)(h2:k < x.Maps.length)(t1:xq x (k - 1))(t2:xq x k){row:List Int}(hr:row∈x.Maps.getD k []):
  LinOK x.Prime (x.Dims.getD (k - 1) 0).toNat row (x.Maps.getD (k - 1) [])∧0≤x.Dims.getD (k - 1) 0∧x.Dims.getD (k - 1) 0≤8:=by
 have hd:∀j,j < x.Dims.length→0≤x.Dims.getD j 0∧x.Dims.getD j 0≤8:=fun j hj=> by
  have:=hs.dims _ (wF hj);simpa[hj]using this
 have hml:=hs.ml;have d1:=hd (k - 1) (by omega);have d2:=hd k (by omega);obtain⟨q1,q2⟩:=t2.2 row hr;refine⟨⟨hs.p.range,q2,?_,fun l hl=>?_,?_,?_⟩,d1⟩
 ·have:=t1.1
  have e:k - 1+1=k:=by omega
  rw[e]at this;omega
 ·obtain⟨r1,r2⟩:=t1.2 l hl
  exact⟨by omega,r2⟩
 ·omega
 ·omega
theorem F86_eq{x:qh}(h:x.Dims.length≤1048576):F86 x=some ((x.Dims.length:Int) - 1):=by
 unfold F86; rw[qo (by omega) (by omega),ob]
theorem mapsD{x:qh}{k:Nat}(h:k < x.Maps.length):x.Maps.getD k []=x.Maps[k]:=by simp[h]
theorem F39_3_eq{x:qh}(hs:ShapeC x){k:Nat}(h2:k < x.Maps.length)(t1:0 < k→xq x (k - 1))(t2:xq x k)(hsm:xf x):
  ∃t,zD (F39_3_S x (k:Int)) 0=some t∧((t= .inl ()∧(0 < k→SqAt x k))∨(t= .inr false∧0 < k∧¬SqAt x k)):=by
 have hml:=hs.ml;have hdl:=hs.dl;have hk:=(hsm.r _ (wF h2)).1;refine zV (fun j:Int=>(x.Maps[k].length - j).toNat) (fun j=>∃n:Nat,j=n∧n≤x.Maps[k].length∧(0 < k→∀i (hi:i < n) (h3:i < x.Maps[k].length),∀y∈lin x.Prime (x.Dims.getD (k - 1) 0).toNat x.Maps[k][i] (x.Maps.getD (k - 1) []),y=0)) _ ⟨0,rfl,by omega,fun _ i hi=> by omega⟩ ?_;rintro _ ⟨n,rfl,hn,hall⟩;unfold F39_3_S;rw[qn h2,ob];by_cases hlt:(n:Int) < x.Maps[k].length
 ·rw[if_pos hlt]
  have hnl:n < x.Maps[k].length:=by omega
  by_cases h0:0 < k
  ·rw[if_pos (by omega)]
   obtain⟨H,d0,d8⟩:=linOK_of hs h0 h2 (t1 h0) t2 (row:=x.Maps[k][n]) (by rw[mapsD h2]; exact wF hnl);have e1:((k:Int) - 1)=((k - 1:Nat):Int):=by omega
   rw[qo (by omega) (by omega),ob,e1,qz (show k - 1 < x.Maps.length by omega) [],ob,qn hnl,ob,qz (show k - 1 < x.Dims.length by omega) 0,ob,
    F80_eq H (by omega),ob]
   obtain⟨i,g1,g2⟩:=F81_tells (l:=lin x.Prime (x.Dims.getD (k - 1) 0).toNat x.Maps[k][n] (x.Maps.getD (k - 1) [])) (by rw[lin_len H]; omega);rw[g1,ob];by_cases hz:0≤i
   ·rw[if_pos hz]
    right;refine⟨_,rfl,.inr ⟨rfl,h0,fun ha=> g2.1 hz (ha _ (by rw[mapsD h2]; exact wF hnl))⟩⟩
   ·rw[if_neg hz]
    left;rw[qo (by omega) (by omega),ob];refine⟨_,rfl,⟨n+1,rfl,hnl,fun _ i hi h3=>?_⟩,by omega⟩;by_cases e:i=n
    ·subst e
     exact vU fun hq=> hz (g2.2 hq)
    ·exact hall h0 i (by omega) h3
  ·rw[if_neg (by omega)]
   right;exact⟨_,rfl,.inl ⟨rfl,fun h=> absurd h h0⟩⟩
 ·rw[if_neg hlt]
  right;refine⟨_,rfl,.inl ⟨rfl,fun h0 row hr=>?_⟩⟩;rw[mapsD h2]at hr;obtain⟨i,hi,rfl⟩:=vL hr;exact hall h0 i (by omega) hi
theorem F39_2_eq{x:qh}(hs:ShapeC x)(hsm:xf x):
  ∃t,forR 0 (x.Maps.length:Int) (F39_2_B x) (F39_2_D x) ()=some t∧((t= .inl ()∧(∀k,k < x.Maps.length→xq x k)∧∀k,0 < k→k < x.Maps.length→SqAt x k)∨(t= .inr false∧¬((∀k,k < x.Maps.length→xq x k)∧∀k,0 < k→k < x.Maps.length→SqAt x k))):=by
 have hml:=hs.ml;have hm:=hsm.m;have hlen:x.Maps.length < 4611686018427387904:=by omega
 refine qt x.Maps.length rfl hlen (fun i _=>(∀k,k < i→xq x k)∧∀k,0 < k→k < i→SqAt x k) _ ⟨fun k hk=> by omega,fun k _ hk=> by omega⟩ ?_ ?_
 ·rintro i _ hi ⟨ht,hq⟩
  unfold F39_2_B;have e2:((i:Int)+1)=((i+1:Nat):Int):=by omega
  have hr:=hsm.r _ (wF hi);rw[qn hi,ob,e2,qz (show i+1 < x.Dims.length by omega) 0,ob,qz (show i < x.Dims.length by omega) 0,ob];have hT:=F79_tells (p:=x.Prime) (c:=x.Dims.getD (i+1) 0) (w:=x.Dims.getD i 0) (m:=x.Maps[i]) hs.p.range (by omega) (fun r h=> by have:=hr.2 r h; omega);rcases hT.case with⟨h1,h2⟩|⟨h1,h2⟩
  ·rw[h1,ob,if_pos rfl]
   have hti:xq x i:=by unfold xq; rw[mapsD hi]; exact h2
   obtain⟨t,g1,g2⟩:=F39_3_eq hs hi (fun h0=> ht _ (by omega)) hti hsm;rw[g1,ob];rcases g2 with⟨rfl,g2⟩|⟨rfl,g0,g2⟩
   ·left
    refine⟨(),rfl,fun k hk=>?_,fun k h0 hk=>?_⟩
    ·by_cases e:k=i
     ·subst e; exact hti
     ·exact ht k (by omega)
    ·by_cases e:k=i
     ·subst e; exact g2 h0
     ·exact hq k h0 (by omega)
   ·right
    exact⟨_,rfl,.inr ⟨rfl,fun ha=> g2 (ha.2 i g0 hi)⟩⟩
  ·rw[h1,ob,if_neg wC]
   right;refine⟨_,rfl,.inr ⟨rfl,fun ha=> h2 ?_⟩⟩;have:=ha.1 i hi;unfold xq at this;rw[mapsD hi]at this;exact this
 ·rintro _ ⟨ht,hq⟩
  exact⟨.inl (),rfl,.inl ⟨rfl,ht,hq⟩⟩
theorem F39_1_eq{x:qh}(hsm:xf x):∃t,forR 0 (x.Dims.length:Int) (F39_1_B x) (F39_1_D x) ()=some t∧((t= .inl ()∧∀d∈x.Dims,0≤d∧d≤8)∨(t= .inr false∧¬∀d∈x.Dims,0≤d∧d≤8)):=by
 have hm:=hsm.d;have hlen:x.Dims.length < 4611686018427387904:=by omega
 refine qt x.Dims.length rfl hlen (fun i _=>∀k (hk:k < i) (h2:k < x.Dims.length),0≤x.Dims[k]∧x.Dims[k]≤8) _ (fun k hk=> by omega) ?_ ?_
 ·rintro i _ hi hI
  unfold F39_1_B;rw[qn hi,ob,xg,ob];by_cases h:0≤x.Dims[i]∧x.Dims[i]≤8
  ·rw[if_pos (by simpa using h)]
   left;refine⟨(),rfl,fun k hk h2=>?_⟩;by_cases e:k=i
   ·subst e; exact h
   ·exact hI k (by omega) h2
  ·rw[if_neg (by simpa using h)]
   right;exact⟨_,rfl,.inr ⟨rfl,fun ha=> h (ha _ (wF hi))⟩⟩
 ·rintro _ hI
  refine⟨.inl (),rfl,.inl ⟨rfl,fun d hd=>?_⟩⟩;obtain⟨k,hk,rfl⟩:=vL hd;exact hI k hk hk
theorem F39_tells{x:qh}(hsm:xf x):qX (F39 x) (xA x):=by
 have hd:=hsm.d;unfold F39;rcases(F78_tells x.Prime).case with⟨h1,hp⟩|⟨h1,hp⟩
 case inr=> rw[h1,ob,if_neg wC]; exact .of_false rfl fun h=> hp h.p
 rw[h1,ob,if_pos rfl];by_cases c1:(x.Dims.length:Int) < 1
 ·rw[if_pos c1]; exact .of_false rfl fun h=> by have:=h.dl; omega
 rw[if_neg c1];by_cases c2:6 < (x.Dims.length:Int)
 ·rw[if_pos c2]; exact .of_false rfl fun h=> by have:=h.dl; omega
 rw[if_neg c2,qo (by omega) (by omega),ob];by_cases c3:(x.Maps.length:Int)=(x.Dims.length:Int) - 1
 case neg=> rw[if_neg c3]; exact .of_false rfl fun h=> by have:=h.ml; omega
 rw[if_pos c3];obtain⟨t,g1,g2⟩:=F39_1_eq hsm;rw[g1,ob];rcases g2 with⟨rfl,g2⟩|⟨rfl,g2⟩
 case inr=> exact .of_false rfl fun h=> g2 h.dims
 have hs:ShapeC x:=⟨hp,by omega,by omega,g2⟩;obtain⟨t,k1,k2⟩:=F39_2_eq hs hsm;simp only;rw[k1,ob];rcases k2 with⟨rfl,k2,k3⟩|⟨rfl,k2⟩
 ·exact .of_true rfl ⟨hs,k2,k3⟩
 ·exact .of_false rfl fun h=> k2 ⟨h.tab,h.sq⟩
theorem F42_1_eq{x:qh}(hs:ShapeC x)(hsm:xf x):
  ∃t,forR 0 (x.Maps.length:Int) (F42_1_B x) (F42_1_D x) ()=some t∧((t= .inl ()∧∀k,k < x.Maps.length→xq x k)∨(t= .inr false∧¬∀k,k < x.Maps.length→xq x k)):=by
 have hml:=hs.ml;have hm:=hsm.m;have hlen:x.Maps.length < 4611686018427387904:=by omega
 refine qt x.Maps.length rfl hlen (fun i _=>∀k,k < i→xq x k) _ (fun k hk=> by omega) ?_ ?_
 ·rintro i _ hi ht
  unfold F42_1_B;have e2:((i:Int)+1)=((i+1:Nat):Int):=by omega
  have hr:=hsm.r _ (wF hi);rw[qn hi,ob,e2,qz (show i+1 < x.Dims.length by omega) 0,ob];have hti:xq x i↔((x.Maps[i].length:Int)=x.Dims.getD (i+1) 0∧∀r∈x.Maps[i],RowOK x.Prime (x.Dims.getD i 0) r):=by unfold xq; rw[mapsD hi]; rfl
  by_cases hc:(x.Maps[i].length:Int)=x.Dims.getD (i+1) 0
  ·rw[if_pos hc,qz (show i < x.Dims.length by omega) 0,ob]
   have hT:=F90_tells (p:=x.Prime) (w:=x.Dims.getD i 0) (m:=x.Maps[i]) hs.p.range (by omega) (fun r h=> by have:=hr.2 r h; omega);rcases hT.case with⟨h1,h2⟩|⟨h1,h2⟩
   ·rw[h1,ob,if_pos rfl]
    left;refine⟨(),rfl,fun k hk=>?_⟩;by_cases e:k=i
    ·subst e; exact hti.2 ⟨hc,h2⟩
    ·exact ht k (by omega)
   ·rw[h1,ob,if_neg wC]
    right;exact⟨_,rfl,.inr ⟨rfl,fun ha=> h2 (hti.1 (ha i hi)).2⟩⟩
  ·rw[if_neg hc]
   right;exact⟨_,rfl,.inr ⟨rfl,fun ha=> hc (hti.1 (ha i hi)).1⟩⟩
 ·rintro _ ht
  exact⟨.inl (),rfl,.inl ⟨rfl,ht⟩⟩
theorem F91_eq{x:qh}(hs:ShapeC x)(hsm:xf x){k:Nat}(h1:0 < k)(h2:k < x.Maps.length)(t1:xq x (k - 1))(t2:xq x k){row:List Int}(hr:row∈x.Maps.getD k []):
  F91 x (k:Int) row=some (lin x.Prime (x.Dims.getD (k - 1) 0).toNat row (x.Maps.getD (k - 1) [])):=by
 have hml:=hs.ml;have hdl:=hs.dl;obtain⟨H,d0,d8⟩:=linOK_of hs h1 h2 t1 t2 hr;unfold F91;have e1:((k:Int) - 1)=((k - 1:Nat):Int):=by omega
 rw[if_neg (by omega),F86_eq hsm.d,ob,if_neg (by omega),qo (by omega) (by omega),ob,e1,qz (show k - 1 < x.Dims.length by omega) 0,ob,qz (show k - 1 < x.Maps.length by omega) [],ob,
  F119_eq H (by omega),ob]
theorem F42_3_eq{x:qh}(hs:ShapeC x)(hsm:xf x)(ht:∀k,k < x.Maps.length→xq x k){n:Nat}(hn:2≤n)(h2:n - 1 < x.Maps.length):
  ∃t,forR 0 ((x.Maps[n - 1].length:Nat):Int) (F42_3_B x (n:Int) x.Maps[n - 1]) (F42_3_D x (n:Int) x.Maps[n - 1]) ()=some t∧((t= .inl ()∧SqAt x (n - 1))∨(t= .inr false∧¬SqAt x (n - 1))):=by
 have hml:=hs.ml;have hdl:=hs.dl;have hk:=(hsm.r _ (wF h2)).1;have hlen:x.Maps[n - 1].length < 4611686018427387904:=by omega
 refine qt x.Maps[n - 1].length rfl hlen (fun i _=>∀j (hj:j < i) (h3:j < x.Maps[n - 1].length),∀y∈lin x.Prime (x.Dims.getD (n - 1 - 1) 0).toNat x.Maps[n - 1][j] (x.Maps.getD (n - 1 - 1) []),y=0) _ (fun j hj=> by omega) ?_ ?_
 ·rintro i _ hi hI
  unfold F42_3_B;have hrow:x.Maps[n - 1][i]∈x.Maps.getD (n - 1) []:=by rw[mapsD h2]; exact wF hi
  have e1:((n:Int) - 1)=((n - 1:Nat):Int):=by omega
  have t1:=ht (n - 1 - 1) (by omega);have t2:=ht (n - 1) h2;obtain⟨H,d0,d8⟩:=linOK_of hs (by omega) h2 t1 t2 hrow;rw[qn hi,ob,qo (by omega) (by omega),ob,e1,F91_eq hs hsm (by omega) h2 t1 t2 hrow,ob];rcases(F92_tells (l:=lin x.Prime (x.Dims.getD (n - 1 - 1) 0).toNat x.Maps[n - 1][i] (x.Maps.getD (n - 1 - 1) [])) (by rw[lin_len H]; omega)).case with⟨g1,g2⟩|⟨g1,g2⟩
  ·rw[g1,ob,if_pos rfl]
   left;refine⟨(),rfl,fun j hj h3=>?_⟩;by_cases e:j=i
   ·subst e; exact g2
   ·exact hI j (by omega) h3
  ·rw[g1,ob,if_neg wC]
   right;exact⟨_,rfl,.inr ⟨rfl,fun ha=> g2 (ha _ hrow)⟩⟩
 ·rintro _ hI
  refine⟨.inl (),rfl,.inl ⟨rfl,fun row hr=>?_⟩⟩;rw[mapsD h2]at hr;obtain⟨j,hj,rfl⟩:=vL hr;exact hI j hj hj
theorem F42_2_eq{x:qh}(hs:ShapeC x)(hsm:xf x)(ht:∀k,k < x.Maps.length→xq x k):
  ∃t,zD (F42_2_S x) 2=some t∧((t= .inl ()∧∀k,0 < k→k < x.Maps.length→SqAt x k)∨(t= .inr false∧¬∀k,0 < k→k < x.Maps.length→SqAt x k)):=by
 have hml:=hs.ml;have hdl:=hs.dl;refine zV (fun j:Int=>(x.Dims.length+2 - j).toNat) (fun j=>∃n:Nat,j=n∧2≤n∧n≤x.Dims.length+1∧∀k,0 < k→k < n - 1→k < x.Maps.length→SqAt x k) _ ⟨2,rfl,by omega,by omega,fun k h0 hk=> by omega⟩ ?_;rintro _ ⟨n,rfl,hn,hn2,hall⟩;unfold F42_2_S;rw[F86_eq hsm.d,ob];by_cases hlt:(n:Int)≤(x.Dims.length:Int) - 1
 ·rw[if_pos hlt]
  have e1:((n:Int) - 1)=((n - 1:Nat):Int):=by omega
  have h2:n - 1 < x.Maps.length:=by omega
  rw[qo (by omega) (by omega),ob,e1,qn h2,ob];obtain⟨t,g1,g2⟩:=F42_3_eq hs hsm ht hn h2;rw[g1,ob];rcases g2 with⟨rfl,g2⟩|⟨rfl,g2⟩
  ·left
   refine⟨((n+1:Nat):Int),?_,⟨n+1,rfl,by omega,by omega,fun k h0 hk h3=>?_⟩,by omega⟩
   ·simp only
    rw[qo (by omega) (by omega),ob];rfl
   ·by_cases e:k=n - 1
    ·subst e; exact g2
    ·exact hall k h0 (by omega) h3
  ·right
   exact⟨_,rfl,.inr ⟨rfl,fun ha=> g2 (ha _ (by omega) h2)⟩⟩
 ·rw[if_neg hlt]
  right;exact⟨_,rfl,.inl ⟨rfl,fun k h0 hk=> hall k h0 (by omega) hk⟩⟩
theorem F42_tells{x:qh}(hsm:xf x):qX (F42 x) (xA x):=by
 have hd:=hsm.d;unfold F42;rcases(F67_tells x.Prime).case with⟨h1,hp⟩|⟨h1,hp⟩
 case inr=> rw[h1,ob,if_neg wC]; exact .of_false rfl fun h=> hp h.p
 rw[h1,ob,if_pos rfl,F86_eq hd,ob,jM,ob];by_cases c1:0≤(x.Dims.length:Int) - 1∧(x.Dims.length:Int) - 1≤5
 case neg=> rw[if_neg (by simpa using c1)]; exact .of_false rfl fun h=> by have:=h.dl; omega
 rw[if_pos (by simpa using c1)];by_cases c3:(x.Maps.length:Int)=(x.Dims.length:Int) - 1
 case neg=> rw[if_neg c3]; exact .of_false rfl fun h=> by have:=h.ml; omega
 rw[if_pos c3];have h88:F82 x.Dims (fun y=> F88 y)=some (x.Dims.any fun d=> !decide (0≤d∧d≤8)):=F82_eq _ (by omega) (fun d _=> by unfold F88; rw[jM,ob]);rw[h88,ob];have hany:(x.Dims.any fun d=> !decide (0≤d∧d≤8))=true↔¬∀d∈x.Dims,0≤d∧d≤8:=by
  simp only[uJ,uO,decide_eq_false_iff_not];constructor
  ·rintro⟨d,h1,h2⟩ ha; exact h2 (ha d h1)
  ·intro hn
   exact vU fun hc=> hn fun d hd=> vU fun h=> hc ⟨d,hd,h⟩
 by_cases c4:(x.Dims.any fun d=> !decide (0≤d∧d≤8))=true
 ·rw[if_pos c4]; exact .of_false rfl fun h=> hany.1 c4 h.dims
 rw[if_neg c4];have hdims:∀d∈x.Dims,0≤d∧d≤8:=vU fun hc=> c4 (hany.2 hc);have hs:ShapeC x:=⟨hp,by omega,by omega,hdims⟩;obtain⟨t,g1,g2⟩:=F42_1_eq hs hsm;rw[g1,ob];rcases g2 with⟨rfl,ht⟩|⟨rfl,ht⟩
 case inr=> exact .of_false rfl fun h=> ht h.tab
 obtain⟨t,k1,k2⟩:=F42_2_eq hs hsm ht;simp only;rw[k1,ob];rcases k2 with⟨rfl,k2⟩|⟨rfl,k2⟩
 ·exact .of_true rfl ⟨hs,ht,k2⟩
 ·exact .of_false rfl fun h=> k2 h.sq
structure zp (x:qc):Prop where
 c:xf x.Complex
 l:x.Levels.length≤1048576
 r:∀q∈x.Levels,q.length≤1048576
def zS(ms:List (List (List Int)))(k i j:Nat):Int:=((ms.getD k []).getD i []).getD j 0
def LevAt(x:qc)(k i j:Nat):Prop:=zS x.Complex.Maps k i j=0∨(x.Levels.getD k []).getD j 0≤(x.Levels.getD (k+1) []).getD i 0
def InT(ms:List (List (List Int)))(k i j:Nat):Prop:=k < ms.length∧i < (ms.getD k []).length∧j < ((ms.getD k []).getD i []).length
structure LevC (x:qc):Prop where
 ll:x.Levels.length=x.Complex.Dims.length
 lv:∀n,n < x.Levels.length→((x.Levels.getD n []).length:Int)=x.Complex.Dims.getD n 0∧∀q∈x.Levels.getD n [],0≤q∧q≤5
structure zC (x:qc):Prop extends LevC x where
 vc:xA x.Complex
 le:∀k i j,InT x.Complex.Maps k i j→LevAt x k i j
theorem zx{α:Type}{l:List α}{i:Nat}(h:i < l.length)(d:α):l.getD i d∈l:=by
 rw[List.getD_eq_getElem?_getD,List.getElem?_eq_getElem h]; exact wF h
theorem levsD{x:qc}{k:Nat}(h:k < x.Levels.length):x.Levels.getD k []=x.Levels[k]:=by simp[h]
theorem bounds{x:qc}(hv:xA x.Complex)(hl:LevC x){k i j:Nat}(h:InT x.Complex.Maps k i j):k+1 < x.Levels.length∧j < (x.Levels.getD k []).length∧i < (x.Levels.getD (k+1) []).length:=by
 obtain⟨h1,h2,h3⟩:=h;have hml:=hv.ml;have hll:=hl.ll;have ht:=hv.tab k h1;have l1:=(hl.lv k (by omega)).1;have l2:=(hl.lv (k+1) (by omega)).1;have hi:(x.Complex.Maps.getD k []).getD i []∈x.Complex.Maps.getD k []:=zx h2 [];have r:=(ht.2 _ hi).1;have t1:=ht.1;refine⟨by omega,by omega,by omega⟩
theorem F77_eq{x:qc}{k i:Nat}(h1:k < x.Levels.length)(h2:i < (x.Levels.getD k []).length):F77 x (k:Int) (i:Int)=some ((x.Levels.getD k []).getD i 0):=by
 unfold F77;rw[qz h1 [],ob,qz h2 0,ob]
theorem F76_eq{x:qh}(hs:x.Dims.length≤1048576){k:Nat}(h:k+1 < x.Dims.length)(hm:k < x.Maps.length):F76 x ((k+1:Nat):Int)=some (x.Maps.getD k []):=by
 unfold F76;have e:(((k+1:Nat):Int) - 1)=(k:Int):=by omega
 rw[qo (by omega) (by omega),ob,xg,ob,if_pos (by simp; omega),qo (by omega) (by omega),ob,e,qz hm [],ob]
theorem F38_2_eq{x:qc}(hsm:zp x){n:Nat}(hn:n < x.Levels.length):
  ∃t,zD (F38_2_S x (n:Int)) 0=some t∧((t= .inl ()∧∀q∈x.Levels.getD n [],0≤q∧q≤5)∨(t= .inr false∧¬∀q∈x.Levels.getD n [],0≤q∧q≤5)):=by
 have hr:=hsm.r _ (wF hn);rw[levsD hn];refine zV (fun j:Int=>(x.Levels[n].length - j).toNat) (fun j=>∃m:Nat,j=m∧m≤x.Levels[n].length∧∀k (hk:k < m) (h2:k < x.Levels[n].length),0≤x.Levels[n][k]∧x.Levels[n][k]≤5) _ ⟨0,rfl,by omega,fun k hk=> by omega⟩ ?_;rintro _ ⟨m,rfl,hm,hall⟩;unfold F38_2_S;rw[qn hn,ob];by_cases hlt:(m:Int) < x.Levels[n].length
 ·have hml:m < x.Levels[n].length:=by omega
  rw[if_pos hlt,qn hml,ob,xg,ob];by_cases hx:0≤x.Levels[n][m]∧x.Levels[n][m]≤5
  ·rw[if_pos (by simpa using hx),qo (by omega) (by omega),ob]
   left;refine⟨_,rfl,⟨m+1,rfl,hml,fun k hk h2=>?_⟩,by omega⟩;by_cases e:k=m
   ·subst e; exact hx
   ·exact hall k (by omega) h2
  ·rw[if_neg (by simpa using hx)]
   right;exact⟨_,rfl,.inr ⟨rfl,fun ha=> hx (ha _ (wF hml))⟩⟩
 ·rw[if_neg hlt]
  right;refine⟨_,rfl,.inl ⟨rfl,fun q hq=>?_⟩⟩;obtain⟨k,hk,rfl⟩:=vL hq;exact hall k (by omega) hk
def LvAt(x:qc)(n:Nat):Prop:=((x.Levels.getD n []).length:Int)=x.Complex.Dims.getD n 0∧∀q∈x.Levels.getD n [],0≤q∧q≤5
theorem F38_1_eq{x:qc}(hsm:zp x)(hl:x.Levels.length=x.Complex.Dims.length):
  ∃t,forR 0 (x.Levels.length:Int) (F38_1_B x) (F38_1_D x) ()=some t∧((t= .inl ()∧∀n,n < x.Levels.length→LvAt x n)∨(t= .inr false∧¬∀n,n < x.Levels.length→LvAt x n)):=by
 have hm:=hsm.l;have hlen:x.Levels.length < 4611686018427387904:=by omega
 refine qt x.Levels.length rfl hlen (fun i _=>∀k,k < i→LvAt x k) _ (fun k hk=> by omega) ?_ ?_
 ·rintro i _ hi ht
  unfold F38_1_B;rw[qz hi [],ob,qz (show i < x.Complex.Dims.length by omega) 0,ob];by_cases hc:((x.Levels.getD i []).length:Int)=x.Complex.Dims.getD i 0
  ·rw[if_pos hc]
   obtain⟨t,g1,g2⟩:=F38_2_eq hsm hi;rw[g1,ob];rcases g2 with⟨rfl,g2⟩|⟨rfl,g2⟩
   ·left
    refine⟨(),rfl,fun k hk=>?_⟩;by_cases e:k=i
    ·subst e; exact⟨hc,g2⟩
    ·exact ht k (by omega)
   ·right
    exact⟨_,rfl,.inr ⟨rfl,fun ha=> g2 (ha i hi).2⟩⟩
  ·rw[if_neg hc]
   right;exact⟨_,rfl,.inr ⟨rfl,fun ha=> hc (ha i hi).1⟩⟩
 ·rintro _ ht
  exact⟨.inl (),rfl,.inl ⟨rfl,ht⟩⟩
theorem F38_5_eq{x:qc}(hsm:zp x)(hv:xA x.Complex)(hl:LevC x){k i:Nat}(hk:k < x.Complex.Maps.length)(hi:i < (x.Complex.Maps.getD k []).length):
  ∃t,zD (F38_5_S x ((k+1:Nat):Int) (x.Complex.Maps.getD k []) (i:Int)) 0=some t∧((t= .inl ()∧∀j,j < ((x.Complex.Maps.getD k []).getD i []).length→LevAt x k i j)∨(t= .inr false∧¬∀j,j < ((x.Complex.Maps.getD k []).getD i []).length→LevAt x k i j)):=by
 have hdl:=hv.dl;have hml:=hv.ml;have hrow:(x.Complex.Maps.getD k []).getD i []∈x.Complex.Maps.getD k []:=zx hi [];have hr:((x.Complex.Maps.getD k []).getD i []).length≤1048576:=(hsm.c.r _ (by rw[mapsD hk]; exact wF hk)).2 _ hrow;refine zV (fun j:Int=>(((x.Complex.Maps.getD k []).getD i []).length - j).toNat) (fun j=>∃m:Nat,j=m∧m≤((x.Complex.Maps.getD k []).getD i []).length∧∀j,j < m→LevAt x k i j) _ ⟨0,rfl,by omega,fun k hk=> by omega⟩ ?_;rintro _ ⟨m,rfl,hm,hall⟩;unfold F38_5_S;rw[qz hi [],ob];by_cases hlt:(m:Int) < ((x.Complex.Maps.getD k []).getD i []).length
 ·have hm2:m < ((x.Complex.Maps.getD k []).getD i []).length:=by omega
  obtain⟨b1,b2,b3⟩:=bounds hv hl (show InT x.Complex.Maps k i m from ⟨hk,hi,hm2⟩);rw[if_pos hlt,qz hm2 0,ob];by_cases h0:((x.Complex.Maps.getD k []).getD i []).getD m 0=0
  ·rw[if_pos h0,qo (by omega) (by omega),ob]
   left;refine⟨_,rfl,⟨m+1,rfl,hm2,fun j hj=>?_⟩,by omega⟩;by_cases e:j=m
   ·subst e; exact .inl h0
   ·exact hall j (by omega)
  ·have e1:(((k+1:Nat):Int) - 1)=(k:Int):=by omega
   rw[if_neg h0,qo (by omega) (by omega),ob,e1,F77_eq (by omega) b2,ob,F77_eq b1 b3,ob];by_cases hlv:(x.Levels.getD (k+1) []).getD i 0 < (x.Levels.getD k []).getD m 0
   ·rw[if_pos hlv]
    right;refine⟨_,rfl,.inr ⟨rfl,fun ha=>?_⟩⟩;rcases ha m hm2 with h|h
    ·exact h0 h
    ·omega
   ·rw[if_neg hlv,qo (by omega) (by omega),ob]
    left;refine⟨_,rfl,⟨m+1,rfl,hm2,fun j hj=>?_⟩,by omega⟩;by_cases e:j=m
    ·subst e; exact .inr (by omega)
    ·exact hall j (by omega)
 ·rw[if_neg hlt]
  right;exact⟨_,rfl,.inl ⟨rfl,fun j hj=> hall j (by omega)⟩⟩
def LeAt(x:qc)(k:Nat):Prop:=∀i j,InT x.Complex.Maps k i j→LevAt x k i j
theorem F38_4_eq{x:qc}(hsm:zp x)(hv:xA x.Complex)(hl:LevC x){k:Nat}(hk:k < x.Complex.Maps.length):
  ∃t,forR 0 ((x.Complex.Maps.getD k []).length:Int) (F38_4_B x ((k+1:Nat):Int) (x.Complex.Maps.getD k [])) (F38_4_D x ((k+1:Nat):Int) (x.Complex.Maps.getD k [])) ()=some t∧((t= .inl ()∧LeAt x k)∨(t= .inr false∧¬LeAt x k)):=by
 have hm:(x.Complex.Maps.getD k []).length≤1048576:=(hsm.c.r _ (by rw[mapsD hk]; exact wF hk)).1;have hlen:(x.Complex.Maps.getD k []).length < 4611686018427387904:=by omega
 refine qt (x.Complex.Maps.getD k []).length rfl hlen (fun n _=>∀i,i < n→∀j,InT x.Complex.Maps k i j→LevAt x k i j) _ (fun i hi=> by omega) ?_ ?_
 ·rintro i _ hi ht
  unfold F38_4_B;obtain⟨t,g1,g2⟩:=F38_5_eq hsm hv hl hk hi;rw[g1,ob];rcases g2 with⟨rfl,g2⟩|⟨rfl,g2⟩
  ·left
   refine⟨(),rfl,fun j hj m hin=>?_⟩;by_cases e:j=i
   ·subst e; exact g2 m hin.2.2
   ·exact ht j (by omega) m hin
  ·right
   exact⟨_,rfl,.inr ⟨rfl,fun ha=> g2 fun j hj=> ha i j ⟨hk,hi,hj⟩⟩⟩
 ·rintro _ ht
  exact⟨.inl (),rfl,.inl ⟨rfl,fun i j hin=> ht i hin.2.1 j hin⟩⟩
theorem F38_3_eq{x:qc}(hsm:zp x)(hv:xA x.Complex)(hl:LevC x):
  ∃t,forR 1 (x.Levels.length:Int) (F38_3_B x) (F38_3_D x) ()=some t∧((t= .inl ()∧∀k,k < x.Complex.Maps.length→LeAt x k)∨(t= .inr false∧¬∀k,k < x.Complex.Maps.length→LeAt x k)):=by
 have hm:=hsm.l;have hll:=hl.ll;have hml:=hv.ml;have hdl:=hv.dl;have hlen:x.Levels.length < 4611686018427387904:=by omega
 refine forR_from 1 x.Levels.length rfl rfl (by omega) hlen (fun n _=> 1≤n∧∀k,k < n - 1→LeAt x k) _ ⟨wG _,fun k hk=> by omega⟩ ?_ ?_
 ·rintro n _ hn ⟨h1,ht⟩
  unfold F38_3_B;obtain⟨k,rfl⟩:∃k,n=k+1:=⟨n - 1,by omega⟩;have hk:k < x.Complex.Maps.length:=by omega
  rw[F76_eq hsm.c.d (by omega) hk,ob];obtain⟨t,g1,g2⟩:=F38_4_eq hsm hv hl hk;rw[g1,ob];rcases g2 with⟨rfl,g2⟩|⟨rfl,g2⟩
  ·left
   refine⟨(),rfl,by omega,fun m hm'=>?_⟩;by_cases e:m=k
   ·subst e; exact g2
   ·exact ht m (by omega)
  ·right
   exact⟨_,rfl,.inr ⟨rfl,fun ha=> g2 (ha k hk)⟩⟩
 ·rintro _ ⟨h1,ht⟩
  exact⟨.inl (),rfl,.inl ⟨rfl,fun k hk=> ht k (by omega)⟩⟩
theorem F38_tells{x:qc}(hsm:zp x):qX (F38 x) (zC x):=by
 unfold F38;rcases(F39_tells hsm.c).case with⟨h1,hv⟩|⟨h1,hv⟩
 case inr=> rw[h1,ob,if_neg wC]; exact .of_false rfl fun h=> hv h.vc
 rw[h1,ob,if_pos rfl];by_cases c1:(x.Levels.length:Int)=x.Complex.Dims.length
 case neg=> rw[if_neg c1]; exact .of_false rfl fun h=> by have:=h.ll; omega
 rw[if_pos c1];obtain⟨t,g1,g2⟩:=F38_1_eq hsm (by omega);rw[g1,ob];rcases g2 with⟨rfl,g2⟩|⟨rfl,g2⟩
 case inr=> exact .of_false rfl fun h=> g2 h.lv
 have hl:LevC x:=⟨by omega,g2⟩;obtain⟨t,k1,k2⟩:=F38_3_eq hsm hv hl;simp only;rw[k1,ob];rcases k2 with⟨rfl,k2⟩|⟨rfl,k2⟩
 ·exact .of_true rfl ⟨hl,hv,fun k i j h=> k2 k h.1 i j h⟩
 ·exact .of_false rfl fun h=> k2 fun k hk i j hin=> h.le k i j hin
theorem F41_1_eq{x:qc}(hsm:zp x)(hl:x.Levels.length=x.Complex.Dims.length):
  ∃t,forR 0 (x.Levels.length:Int) (F41_1_B x) (F41_1_D x) ()=some t∧((t= .inl ()∧∀n,n < x.Levels.length→LvAt x n)∨(t= .inr false∧¬∀n,n < x.Levels.length→LvAt x n)):=by
 have hm:=hsm.l;have hlen:x.Levels.length < 4611686018427387904:=by omega
 refine qt x.Levels.length rfl hlen (fun i _=>∀k,k < i→LvAt x k) _ (fun k hk=> by omega) ?_ ?_
 ·rintro i _ hi ht
  unfold F41_1_B;rw[qz hi [],ob,qz (show i < x.Complex.Dims.length by omega) 0,ob];by_cases hc:((x.Levels.getD i []).length:Int)=x.Complex.Dims.getD i 0
  ·rw[if_pos hc]
   have hr:(x.Levels.getD i []).length≤1048576:=hsm.r _ (by rw[levsD hi]; exact wF hi);have h83:F82 (x.Levels.getD i []) (fun y=> F83 y)=some ((x.Levels.getD i []).any fun q=> !decide (0≤q∧q≤5)):=F82_eq _ (by omega) (fun q _=> by unfold F83; rw[jM,ob]);have hany:((x.Levels.getD i []).any fun q=> !decide (0≤q∧q≤5))=true↔¬∀q∈x.Levels.getD i [],0≤q∧q≤5:=by
    simp only[uJ,uO,decide_eq_false_iff_not];constructor
    ·rintro⟨d,h1,h2⟩ ha; exact h2 (ha d h1)
    ·intro hn
     exact vU fun hc=> hn fun d hd=> vU fun h=> hc ⟨d,hd,h⟩
   rw[h83,ob];by_cases c4:((x.Levels.getD i []).any fun q=> !decide (0≤q∧q≤5))=true
   ·rw[if_pos c4]
    right;exact⟨_,rfl,.inr ⟨rfl,fun ha=> hany.1 c4 (ha i hi).2⟩⟩
   ·rw[if_neg c4]
    left;refine⟨(),rfl,fun k hk=>?_⟩;by_cases e:k=i
    ·subst e; exact⟨hc,vU fun h=> c4 (hany.2 h)⟩
    ·exact ht k (by omega)
  ·rw[if_neg hc]
   right;exact⟨_,rfl,.inr ⟨rfl,fun ha=> hc (ha i hi).1⟩⟩
 ·rintro _ ht
  exact⟨.inl (),rfl,.inl ⟨rfl,ht⟩⟩
theorem F85_and{ms:List (List (List Int))}{f:Int→Int→Int→Int→Bool→Option Bool}(P:Nat→Nat→Nat→Prop)(h1:ms.length≤1048576)(h2:∀m∈ms,m.length≤1048576∧∀r∈m,r.length≤1048576)
  (hf:∀k i j b,InT ms k i j→∃b',f ((k:Int)+1) i j (zS ms k i j) b=some b'∧(b'=true↔b=true∧P k i j)):qX (F85 ms f true) (∀k i j,InT ms k i j→P k i j):=by
 unfold F85;have hl1:ms.length < 4611686018427387904:=by omega
 refine qt (τ:=Bool) (σ:=Bool) ms.length rfl hl1 (fun n b=>(b=true↔∀k i j,k < n→InT ms k i j→P k i j)) _ (by simp) ?_ ?_
 ·intro k b hk hI
  left;rw[qz hk [],ob];have hmem:ms.getD k []∈ms:=zx hk [];have hm:=h2 _ hmem;have hl2:(ms.getD k []).length < 4611686018427387904:=by have:=hm.1; omega
  suffices hs:∃t,forR 0 ((ms.getD k []).length:Int) _ _ b=some t∧(t=true↔∀k' i j,k' < k+1→InT ms k' i j→P k' i j) by
   obtain⟨t,g1,g2⟩:=hs;rw[g1,ob];exact⟨t,rfl,g2⟩
  refine qt (τ:=Bool) (σ:=Bool) (ms.getD k []).length rfl hl2 (fun n b=>(b=true↔(∀k' i j,k' < k→InT ms k' i j→P k' i j)∧∀i j,i < n→InT ms k i j→P k i j)) _ (by rw[hI]; simp) ?_ ?_
  ·intro i b hi hI2
   left;rw[qz hi [],ob];have hmem2:(ms.getD k []).getD i []∈ms.getD k []:=zx hi [];have hl3:((ms.getD k []).getD i []).length < 4611686018427387904:=by have:=hm.2 _ hmem2; omega
   suffices hs:∃t,forR 0 (((ms.getD k []).getD i []).length:Int) _ _ b=some t∧(t=true↔(∀k' i j,k' < k→InT ms k' i j→P k' i j)∧∀i' j,i' < i+1→InT ms k i' j→P k i' j) by
    obtain⟨t,g1,g2⟩:=hs;rw[g1,ob];exact⟨t,rfl,g2⟩
   refine qt (τ:=Bool) (σ:=Bool) ((ms.getD k []).getD i []).length rfl hl3 (fun n b=>(b=true↔((∀k' i j,k' < k→InT ms k' i j→P k' i j)∧∀i' j,i' < i→InT ms k i' j→P k i' j)∧∀j,j < n→InT ms k i j→P k i j)) _ (by rw[hI2]; simp) ?_ ?_
   ·intro j b hj hI3
    left;have hin:InT ms k i j:=⟨hk,hi,hj⟩;rw[qz hj 0,ob,qo (by omega) (by omega),ob];obtain⟨b',g1,g2⟩:=hf k i j b hin;have g1':f ((k:Int)+1) i j (((ms.getD k []).getD i []).getD j 0) b=some b':=g1;rw[g1',ob];refine⟨b',rfl,?_⟩;rw[g2,hI3];constructor
    ·rintro⟨⟨q1,q2⟩,q3⟩
     refine⟨q1,fun j' hj' hin'=>?_⟩;by_cases e:j'=j
     ·subst e; exact q3
     ·exact q2 j' (by omega) hin'
    ·rintro⟨q1,q2⟩
     exact⟨⟨q1,fun j' hj' hin'=> q2 j' (by omega) hin'⟩,q2 j (by omega) hin⟩
   ·intro b hI3
    refine⟨b,rfl,?_⟩;rw[hI3];constructor
    ·rintro⟨⟨q1,q2⟩,q3⟩
     refine⟨q1,fun i' j hi' hin'=>?_⟩;by_cases e:i'=i
     ·subst e; exact q3 j hin'.2.2 hin'
     ·exact q2 i' j (by omega) hin'
    ·rintro⟨q1,q2⟩
     exact⟨⟨q1,fun i' j hi' hin'=> q2 i' j (by omega) hin'⟩,fun j _ hin'=> q2 i j (by omega) hin'⟩
  ·intro b hI2
   refine⟨b,rfl,?_⟩;rw[hI2];constructor
   ·rintro⟨q1,q2⟩ k' i j hk' hin'
    by_cases e:k'=k
    ·subst e; exact q2 i j hin'.2.1 hin'
    ·exact q1 k' i j (by omega) hin'
   ·intro q
    exact⟨fun k' i j hk' hin'=> q k' i j (by omega) hin',fun i j _ hin'=> q k i j (by omega) hin'⟩
 ·intro b hI
  refine⟨b,rfl,?_⟩;rw[hI];constructor
  ·intro q k i j hin; exact q k i j hin.1 hin
  ·intro q k i j _ hin; exact q k i j hin
theorem F41_tells{x:qc}(hsm:zp x):qX (F41 x) (zC x):=by
 unfold F41;rcases(F42_tells hsm.c).case with⟨h1,hv⟩|⟨h1,hv⟩
 case inr=> rw[h1,ob,if_neg wC]; exact .of_false rfl fun h=> hv h.vc
 rw[h1,ob,if_pos rfl];by_cases c1:(x.Levels.length:Int)=x.Complex.Dims.length
 case neg=> rw[if_neg c1]; exact .of_false rfl fun h=> by have:=h.ll; omega
 rw[if_pos c1];obtain⟨t,g1,g2⟩:=F41_1_eq hsm (by omega);rw[g1,ob];rcases g2 with⟨rfl,g2⟩|⟨rfl,g2⟩
 case inr=> exact .of_false rfl fun h=> g2 h.lv
 have hl:LevC x:=⟨by omega,g2⟩;have hml:=hv.ml;have hdl:=hv.dl;have hT:=F85_and (ms:=x.Complex.Maps) (f:=fun n r p v s=> F84 n r p v s x) (LevAt x) hsm.c.m hsm.c.r (by
  intro k i j b hin;obtain⟨b1,b2,b3⟩:=bounds hv hl hin;have hk:=hin.1;unfold F84;cases b with
  |false=> rw[if_neg wC]; exact⟨false,rfl,by simp⟩
  |true=>
   rw[if_pos rfl];by_cases h0:zS x.Complex.Maps k i j=0
   ·rw[if_pos h0]; exact⟨true,rfl,by simp[LevAt,h0]⟩
   ·have e1:((k:Int)+1 - 1)=(k:Int):=by omega
    have e2:((k:Int)+1)=((k+1:Nat):Int):=by omega
    rw[if_neg h0,qo (by omega) (by omega),ob,e1,qz (show k < x.Levels.length by omega) [],ob,qz b2 0,ob,e2,qz b1 [],ob,qz b3 0,ob];exact⟨_,rfl,by simp only[decide_eq_true_eq,LevAt,h0,false_or,true_and]⟩)
 simp only;rcases hT.case with⟨k1,k2⟩|⟨k1,k2⟩
 ·rw[k1,ob]; exact .of_true rfl ⟨hl,hv,k2⟩
 ·rw[k1,ob]; exact .of_false rfl fun h=> k2 h.le
abbrev Long0(n:Int):Prop:= -9223372036854775808≤n∧n≤9223372036854775807
theorem eq_loop{n:Nat}{B:Int→Unit→Option (Unit⊕(Unit⊕Bool))}{D:Int→Unit→Option (Unit⊕Bool)}(hn:n≤1048576)(hB:∀ (i:Nat) (s:Unit),i < n→B i s=some (.inl ()))(hD:∀i s,D i s=some (.inl ())):forR 0 (n:Int) B D ()=some (.inl ()):=by
 have hlen:n < 4611686018427387904:=by omega
 obtain⟨t,h1,h2⟩:=qt (B:=B) (D:=D) n rfl hlen (fun _ _=> True) (fun t=> t= .inl ()) (s:=()) trivial (fun i s hi _=> .inl ⟨_,hB i s hi,trivial⟩) (fun s _=>⟨_,hD _ _,rfl⟩);rw[h1,h2]
theorem F30_same{a:List Int}(h:a.length≤1048576):F30 a a=some true:=by
 unfold F30;rw[if_pos rfl,eq_loop (B:=F30_1_B a a) (D:=F30_1_D a a) h (fun i s hi=> by unfold F30_1_B; rw[qn hi,ob,ob,if_pos rfl]) (fun i s=> rfl),ob]
structure SmallT (ms:List (List (List Int))):Prop where
 m:ms.length≤1048576
 r:∀m∈ms,m.length≤1048576∧∀r∈m,r.length≤1048576
def TabM(x:qh)(ms:List (List (List Int)))(k:Nat):Prop:=TableOK x.Prime (x.Dims.getD (k+1) 0) (x.Dims.getD k 0) (ms.getD k [])
structure MapsOK (x:qh) (ms:List (List (List Int))):Prop where
 v:xA x
 l:ms.length=x.Maps.length
 t:∀k,k < ms.length→TabM x ms k
abbrev T3s:=List (List (List Int))
structure Shp (s u:T3s):Prop where
 l:s.length=u.length
 t:∀k,k < u.length→(s.getD k []).length=(u.getD k []).length
 r:∀k,k < u.length→∀i,i < (u.getD k []).length→((s.getD k []).getD i []).length=((u.getD k []).getD i []).length
theorem Shp.refl(s:T3s):Shp s s:=⟨rfl,fun _ _=> rfl,fun _ _ _ _=> rfl⟩
theorem Shp.trans{a b c:T3s}(h:Shp a b)(k:Shp b c):Shp a c:=
 ⟨h.l.trans k.l,fun n hn=>(h.t n (by rw[k.l]; exact hn)).trans (k.t n hn),fun n hn i hi=>(h.r n (by rw[k.l]; exact hn) i (by rw[k.t n hn]; exact hi)).trans (k.r n hn i hi)⟩
theorem Shp.symm{a b:T3s}(h:Shp a b):Shp b a:=
 ⟨h.l.symm,fun n hn=>(h.t n (by rw[←h.l]; exact hn)).symm,fun n hn i hi=>(h.r n (by rw[←h.l]; exact hn) i (by rw[←h.t n (by rw[←h.l]; exact hn)]; exact hi)).symm⟩
theorem Shp.inT{s t:T3s}(h:Shp s t){k i j:Nat}(q:InT t k i j):InT s k i j:=by
 obtain⟨q1,q2,q3⟩:=q;exact⟨by rw[h.l]; exact q1,by rw[h.t k q1]; exact q2,by rw[h.r k q1 i q2]; exact q3⟩
theorem getD_ext{α:Type}{l l':List α}(d:α)(h:l.length=l'.length)(hv:∀k,k < l'.length→l.getD k d=l'.getD k d):l=l':=by
 apply yV h;intro k h1 h2;have:=hv k h2;simpa[h1,h2]using this
theorem Shp.eq{s t:T3s}(h:Shp s t)(hv:∀k i j,InT t k i j→zS s k i j=zS t k i j):s=t:=by
 refine getD_ext [] h.l fun k hk=> getD_ext [] (h.t k hk) fun i hi=> getD_ext 0 (h.r k hk i hi) fun j hj=> hv k i j ⟨hk,hi,hj⟩
def put3(s:T3s)(k i j:Nat)(z:Int):T3s:=s.set k ((s.getD k []).set i (((s.getD k []).getD i []).set j z))
theorem getD_set{α:Type}{l:List α}{k k':Nat}{x d:α}(hk:k < l.length):(l.set k x).getD k' d=if k'=k then x else l.getD k' d:=by
 rw[List.getD_eq_getElem?_getD,List.getElem?_set];by_cases e:k=k'
 ·subst e; rw[if_pos rfl,if_pos hk,if_pos rfl]; rfl
 ·rw[if_neg e,if_neg (fun q=> e q.symm),List.getD_eq_getElem?_getD]
theorem put3_shp{s:T3s}{k i j:Nat}(h:InT s k i j)(z:Int):Shp (put3 s k i j z) s:=by
 obtain⟨h1,h2,h3⟩:=h;refine⟨by simp[put3],fun n hn=>?_,fun n hn m hm=>?_⟩
 ·unfold put3; rw[getD_set h1]; split
  ·rename_i e; subst e; simp
  ·rfl
 ·unfold put3; rw[getD_set h1]; split
  ·rename_i e; subst e
   rw[getD_set h2]; split
   ·rename_i e; subst e; simp
   ·rfl
  ·rfl
theorem put3_at{s:T3s}{k i j:Nat}(h:InT s k i j)(z:Int)(k' i' j':Nat):zS (put3 s k i j z) k' i' j'=if k'=k∧i'=i∧j'=j then z else zS s k' i' j':=by
 obtain⟨h1,h2,h3⟩:=h;unfold zS put3;rw[getD_set h1];by_cases e:k'=k
 ·subst e
  rw[if_pos rfl,getD_set h2];by_cases e:i'=i
  ·subst e
   rw[if_pos rfl,getD_set h3];by_cases e:j'=j
   ·subst e; simp
   ·rw[if_neg e,if_neg (by simp[e])]
  ·rw[if_neg e,if_neg (by simp[e])]
 ·rw[if_neg e,if_neg (by simp[e])]
def q0(p a b:Int):Int:=(a+b).tmod p
def q1(p a b:Int):Int:=((a+b).tmod p+p).tmod p
theorem q0_range{p a b:Int}(hp:2≤p∧p≤7)(ha:0≤a∧a < p)(hb:0≤b∧b < p):0≤q0 p a b∧q0 p a b < p:=by
 unfold q0;rw[vY (by omega)];exact⟨yO _ (by omega),yE _ (by omega)⟩
theorem q1_eq{p a b:Int}(hp:2≤p∧p≤7)(ha:0≤a∧a < p)(hb:0≤b∧b < p):q1 p a b=q0 p a b:=by
 have h:=q0_range hp ha hb;unfold q0 at h;unfold q1 q0;rw[vY (show 0≤(a+b).tmod p+p by omega),Int.add_emod_right,yC h.1 h.2]
theorem q1_zero{p b:Int}(hp:2≤p∧p≤7)(hb:0≤b∧b < p):q1 p 0 b=b:=by
 rw[q1_eq hp (by omega) hb];unfold q0;rw[Int.zero_add,vY hb.1,yC hb.1 hb.2]
def Rng(p:Int)(s:T3s):Prop:=∀k i j,InT s k i j→0≤zS s k i j∧zS s k i j < p
theorem F75_eq{p:Int}(hp:2≤p∧p≤7){s:T3s}{k i j:Nat}{v:Int}(h:InT s k i j)(hk:k≤1048576)(ho:0≤zS s k i j∧zS s k i j < p)(hv:0≤v∧v < p):
  F75 p ((k:Int)+1) i j v s=some (put3 s k i j (q1 p (zS s k i j) v)):=by
 obtain⟨h1,h2,h3⟩:=h;have e1:((k:Int)+1 - 1)=(k:Int):=by omega
 have hq:=q0_range hp ho hv;have ho':zS s k i j=((s.getD k []).getD i []).getD j 0:=rfl;unfold q0 at hq;rw[ho']at hq ho;unfold F75;rw[qo (by omega) (by omega),ob,e1,qz h1 [],ob,qz h2 [],ob,qz h3 0,ob,qo (by omega) (by omega),ob,jk (by omega),ob,qo (by omega) (by omega),ob,jk (by omega),ob,zu h3,ob,zu h2,ob,zu h1];rfl
def AT(q:Int→Int→Int)(s0 ms:T3s)(D:Nat→Nat→Nat→Prop)(s:T3s):Prop:=
 Shp s s0∧∀k i j,InT s0 k i j→(D k i j→zS s k i j=q (zS s0 k i j) (zS ms k i j))∧(¬D k i j→zS s k i j=zS s0 k i j)
theorem AT.imp{q:Int→Int→Int}{s0 ms:T3s}{D D':Nat→Nat→Nat→Prop}{s:T3s}(h:AT q s0 ms D s)(hd:∀k i j,InT s0 k i j→(D k i j↔D' k i j)):AT q s0 ms D' s:=
 ⟨h.1,fun k i j hin=>⟨fun d=>(h.2 k i j hin).1 ((hd k i j hin).2 d),fun d=>(h.2 k i j hin).2 fun x=> d ((hd k i j hin).1 x)⟩⟩
theorem AT.zero(q:Int→Int→Int)(s0 ms:T3s):AT q s0 ms (fun _ _ _=> False) s0:=⟨.refl _,fun k i j _=>⟨fun x=> x.elim,fun _=> rfl⟩⟩
theorem AT.step{q:Int→Int→Int}{s0 ms:T3s}{D D':Nat→Nat→Nat→Prop}{s:T3s}(h:AT q s0 ms D s){k i j:Nat}(hin:InT s0 k i j)(hn:¬D k i j)(hd:∀k' i' j',D' k' i' j'↔D k' i' j'∨(k'=k∧i'=i∧j'=j)):AT q s0 ms D' (put3 s k i j (q (zS s k i j) (zS ms k i j))):=by
 have hs:=h.1.inT hin;refine⟨(put3_shp hs _).trans h.1,fun k' i' j' hin'=>?_⟩;rw[put3_at hs];by_cases e:k'=k∧i'=i∧j'=j
 ·obtain⟨rfl,rfl,rfl⟩:=e
  rw[if_pos ⟨rfl,rfl,rfl⟩,(h.2 _ _ _ hin').2 hn];exact⟨fun _=> rfl,fun d=> absurd ((hd _ _ _).2 (.inr ⟨rfl,rfl,rfl⟩)) d⟩
 ·rw[if_neg e]
  refine⟨fun d=>(h.2 _ _ _ hin').1 (((hd _ _ _).1 d).resolve_right e),fun d=>(h.2 _ _ _ hin').2 fun x=> d ((hd _ _ _).2 (.inl x))⟩
theorem cpy_loop{α:Type}{l:List α}{B:Int→List α→Option (List α⊕List α)}{D:Int→List α→Option (List α)}(hl:l.length≤1048576)
  (hB:∀ (i:Nat) (hi:i < l.length) (s:List α),s.length=i→B i s=some (.inl (s++[l[i]]))) (hD:∀i s,D i s=some s):forR 0 (l.length:Int) B D []=some l:=by
 have hlen:l.length < 4611686018427387904:=by omega
 obtain⟨t,h1,h2⟩:=qt (B:=B) (D:=D) l.length rfl hlen (fun i s=> s=l.take i) (fun t=> t=l) (s:=[]) (by simp) (by
  rintro i s hi rfl;left;refine⟨_,hB i hi _ (by simp; omega),?_⟩;rw[vM]) (by
  rintro s rfl;exact⟨_,hD _ _,by simp⟩)
 rw[h1,h2]
theorem app_nil{b:Nat}{α:Type}{l:List α}(h:l.length*b≤1099511627776)(h2:l.length≤1099511627776):app b [] l=some l:=by
 rw[qN (by simpa using h) (by simpa using h2)]; rfl
theorem F94_eq{l:List Int}(h:l.length≤1048576):F94 l=some l:=by
 unfold F94; rw[app_nil (by omega) (by omega),ob]
theorem F96_eq{l:List Int}(h:l.length≤1048576):F96 l=some l:=by
 unfold F96; rw[app_nil (by omega) (by omega)]
theorem TabM.len{x:qh}{ms:T3s}{k:Nat}(h:TabM x ms k):((ms.getD k []).length:Int)=x.Dims.getD (k+1) 0:=h.1
theorem MapsOK.self{x:qh}(h:xA x):MapsOK x x.Maps:=⟨h,rfl,fun k hk=> h.tab k hk⟩
theorem MapsOK.rng{x:qh}{ms:T3s}(h:MapsOK x ms):Rng x.Prime ms:=by
 rintro k i j ⟨h1,h2,h3⟩;exact((h.t k h1).2 _ (zx h2 [])).2 _ (zx h3 0)
theorem MapsOK.shp{x:qh}{ms ns:T3s}(h:MapsOK x ms)(k:MapsOK x ns):Shp ms ns:=by
 have e:ms.length=ns.length:=h.l.trans k.l.symm;refine⟨e,fun n hn=>?_,fun n hn i hi=>?_⟩
 ·have a:=(h.t n (by omega)).1
  have b:=(k.t n hn).1;omega
 ·have a:=(h.t n (by omega)).1
  have b:=(k.t n hn).1;have c:=((h.t n (by omega)).2 _ (zx (show i < (ms.getD n []).length by omega) [])).1;have d:=((k.t n hn).2 _ (zx hi [])).1;omega
def zT(dims:List Int)(k:Nat):List (List Int):=List.replicate (dims.getD (k+1) 0).toNat (List.replicate (dims.getD k 0).toNat (0:Int))
def zM(dims:List Int):T3s:=(List.range (dims.length - 1)).map (zT dims)
theorem F74_2_eq{dims:List Int}(o:T3s)(a b:Int)(c:List Int){n:Nat}(h1:1≤n)(hn:n < dims.length)(hs:dims.length≤1048576)(hd:∀d∈dims,0≤d∧d≤8):
  forR 0 (dims.getD n 0) (F74_2_B dims o a c n b) (F74_2_D dims o a c n b) []=some (zT dims (n - 1)):=by
 have q:=hd _ (zx hn 0);have q':=hd _ (zx (show n - 1 < dims.length by omega) 0);have e1:((n:Int) - 1)=((n - 1:Nat):Int):=by omega
 obtain⟨t,g1,g2⟩:=qt (B:=F74_2_B dims o a c n b) (D:=F74_2_D dims o a c n b) (hi:=dims.getD n 0) (dims.getD n 0).toNat (by omega) (by omega) (fun j s=> s=List.replicate j (List.replicate (dims.getD (n - 1) 0).toNat (0:Int))) (fun t=> t=zT dims (n - 1)) (s:=[]) (by simp) (by
  rintro j s hj rfl;left;refine⟨List.replicate (j+1) (List.replicate (dims.getD (n - 1) 0).toNat (0:Int)),?_,rfl⟩;unfold F74_2_B;rw[qo (by omega) (by omega),ob,e1,qz (show n - 1 < dims.length by omega) 0,ob,mkL_ok (dims.getD (n - 1) 0).toNat (by omega) (by omega) (by omega),ob,qN (by simp; omega) (by simp; omega),ob,List.replicate_succ']) (by
  rintro s rfl;refine⟨_,rfl,?_⟩;unfold zT;rw[show n - 1+1=n by omega])
 rw[g1,g2]
theorem F74_eq{p:Int}{dims:List Int}(h1:1≤dims.length)(hs:dims.length≤1048576)(hd:∀d∈dims,0≤d∧d≤8):F74 p dims=some ⟨p,dims,zM dims⟩:=by
 have hlen:dims.length < 4611686018427387904:=by omega
 unfold F74;obtain⟨t,g1,g2⟩:=forR_from (B:=F74_1_B dims) (D:=F74_1_D dims) 1 dims.length rfl rfl h1 hlen (fun n s=> 1≤n∧s=((List.range (n - 1)).map (zT dims),p,dims)) (fun t=> t=(zM dims,p,dims)) (s:=([],p,dims)) ⟨wG _,rfl⟩ (by
  rintro n s hn ⟨hn1,rfl⟩;left;refine⟨((List.range n).map (zT dims),p,dims),?_,by omega,rfl⟩;unfold F74_1_B;simp only;rw[qz hn 0,ob,F74_2_eq _ _ _ _ hn1 hn hs hd,ob,qN (by simp; omega) (by simp; omega),ob];obtain⟨m,rfl⟩:∃m,n=m+1:=⟨n - 1,by omega⟩;rw[yY,vT]; rfl) (by
  rintro s ⟨_,rfl⟩;exact⟨_,rfl,rfl⟩)
 have g1':forR 1 (dims.length:Int) (F74_1_B dims) (F74_1_D dims) ([],p,dims)=some t:=g1;rw[g1',g2,ob]
theorem zM_at{dims:List Int}{k:Nat}(hk:k < dims.length - 1):(zM dims).getD k []=zT dims k:=by
 unfold zM;rw[List.getD_eq_getElem?_getD,List.getElem?_map,List.getElem?_range hk]; rfl
inductive Ch {α:Type} (R:α→Int→Int→Prop):List α→Int→Int→Prop
 |nil (k:Int):Ch R [] k k
 |cons {a:α} {l:List α} {k j m:Int}:R a k j→Ch R l j m→Ch R (a::l) k m
theorem Ch.snoc{α:Type}{R:α→Int→Int→Prop}{a:α}{j m:Int}(h:R a j m):∀ {l:List α} {k:Int},Ch R l k j→Ch R (l++[a]) k m
 |_,_,.nil _=> .cons h (.nil _)
 |_,_,.cons p q=> .cons p (Ch.snoc h q)
theorem take_set_app{α:Type}{l:List α}{i:Nat}(hi:i < l.length)(a:α):(l.set i a).take (i+1)=l.take i++[a]:=by
 rw[List.take_add_one,List.getElem?_set_self hi,List.take_set_of_le (wG _)]; rfl
theorem mark_loop{α:Type}{l:List α}{R:α→Int→Int→Prop}{M k:Int}{B:Int→List α×Int→Option ((List α×Int)⊕(List α×Int))}{D:Int→List α×Int→Option (List α×Int)}(hl:l.length≤1048576)(hM:0≤M)
  (hB:∀ (i:Nat) (hi:i < l.length) (s:List α) (j:Int),s.length=l.length→s[i]? =some l[i]→k≤j→j≤k+i*M→∃a m,B i (s,j)=some (.inl (s.set i a,m))∧R a j m∧j≤m∧m≤j+M) (hD:∀i s,D i s=some s):
  ∃r j,forR 0 (l.length:Int) B D (l,k)=some (r,j)∧Ch R r k j∧k≤j∧j≤k+l.length*M∧r.length=l.length:=by
 have hlen:l.length < 4611686018427387904:=by omega
 obtain⟨t,h1,h2,h3,h4,h5⟩:=qt (B:=B) (D:=D) l.length rfl hlen (fun i s=> s.1.length=l.length∧(∀n,i≤n→s.1[n]? =l[n]?)∧Ch R (s.1.take i) k s.2∧k≤s.2∧s.2≤k+i*M) (fun t=> Ch R t.1 k t.2∧k≤t.2∧t.2≤k+l.length*M∧t.1.length=l.length) (s:=(l,k)) ⟨rfl,fun _ _=> rfl,by simpa using Ch.nil k,yG _,by simp⟩ (by
  rintro i ⟨s,j⟩ hi ⟨p1,p2,p3,p4,p5⟩;simp only at p1 p2 p3 p4 p5;left;obtain⟨a,m,q1,q2,q3,q4⟩:=hB i hi s j p1 (by rw[p2 i (wG _)]; simp[hi]) p4 p5;refine⟨_,q1,by simp[p1],fun n hn=>?_,?_,by simp only; omega,?_⟩
  ·simp only
   rw[List.getElem?_set_ne (by omega)]; exact p2 n (by omega)
  ·simp only
   rw[take_set_app (by omega)]; exact p3.snoc q2
  ·simp only
   rw[Int.natCast_add,Int.add_mul]; omega) (by
  rintro⟨s,j⟩ ⟨p1,p2,p3,p4,p5⟩;simp only at p1 p2 p3 p4 p5;refine⟨_,hD _ _,?_,p4,p5,p1⟩;rw[←p1,vQ]at p3;exact p3)
 exact⟨t.1,t.2,h1,h2,h3,h4,h5⟩
theorem held_loop{α:Type}{l:List α}{R:α→Int→Int→Prop}{k m:Int}{B:Int→Int→Option (Int⊕(Int⊕Int))}{D:Int→Int→Option (Int⊕Int)}(hl:l.length≤1048576)(hc:Ch R l k m)
  (hB:∀ (i:Nat) (hi:i < l.length) (s j:Int),k≤s→R l[i] s j→B i s=some (.inl j)) (hR:∀a s j,R a s j→s≤j) (hD:∀i s,D i s=some (.inl s)):forR 0 (l.length:Int) B D k=some (.inl m):=by
 have hlen:l.length < 4611686018427387904:=by omega
 obtain⟨t,h1,h2⟩:=qt (B:=B) (D:=D) l.length rfl hlen (fun i s=> k≤s∧Ch R (l.drop i) s m) (fun t=> t= .inl m) (s:=k) ⟨yG _,hc⟩ (by
  rintro i s hi ⟨p0,p⟩;left;rw[yB hi]at p;cases p with
  |cons p q=>
   rename_i j;exact⟨j,hB i hi s j p0 p,by have:=hR _ _ _ p; omega,q⟩) (by
  rintro s ⟨_,p⟩;rw[List.drop_length]at p;cases p;exact⟨_,hD _ _,rfl⟩)
 rw[h1,h2]
def Mk0(n:Int)(k m:Int):Prop:=n=k∧m=k+1
def Mk1(l:List Int)(k m:Int):Prop:=l.length≤1048576∧k≤m∧m≤k+1048576∧Ch Mk0 l k m
theorem F31_mk{l:List Int}(h:l.length≤1048576){k:Int}(h0:0≤k)(h1:k≤9223372036850000000):∃r m,F31 l k=some (r,m)∧Mk1 r k m:=by
 obtain⟨r,j,g1,g2,g3,g4,g5⟩:=mark_loop (R:=Mk0) (k:=k) (B:=F31_1_B) (D:=F31_1_D) (M:=1) h (by decide) (by
  intro i hi s j e1 e2 e3 e4;unfold F31_1_B;simp only;rw[zu (by omega),ob,qo (by omega) (by omega),ob];exact⟨_,_,rfl,⟨rfl,rfl⟩,by omega,by omega⟩) (fun i s=> rfl)
 exact⟨r,j,g1,by omega,g3,by omega,g2⟩
theorem F32_held{l:List Int}{k m:Int}(h:Mk1 l k m)(h0:0≤k)(h1:k≤4611686018427387904):F32 l k=some m:=by
 obtain⟨hl,h2,h3,hc⟩:=h;unfold F32;have:=held_loop (B:=F32_1_B l) (D:=F32_1_D l) (k:=k) (m:=m) hl (R:=fun a s j=> Mk0 a s j∧j≤m) (by
  clear h0 h1 h2 h3 hl;induction hc with
  |nil k=> exact .nil k
  |cons p q ih=>
   refine .cons ⟨p,?_⟩ ih;clear ih p;induction q with
   |nil=> exact yG _
   |cons p q ih=> obtain⟨rfl,rfl⟩:=p; omega) (by
  rintro i hi s j hs ⟨⟨p,rfl⟩,hj⟩;unfold F32_1_B;rw[qn hi,ob,if_pos p,qo (by omega) (by omega),ob]) (fun a s j p=> by obtain⟨⟨_,rfl⟩,_⟩:=p; omega) (fun i s=> rfl)
 rw[this,ob]
theorem Ch.le{α:Type}{R:α→Int→Int→Prop}(hR:∀a s j,R a s j→s≤j):∀ {l:List α} {k m:Int},Ch R l k m→k≤m
 |_,_,_,.nil _=> yG _
 |_,_,_,.cons p q=> Int.le_trans (hR _ _ _ p) (Ch.le hR q)
theorem xf.zero:xf (⟨0,[],[]⟩:qh):=⟨by simp,by simp,by simp⟩
theorem zp.zero:zp (⟨⟨0,[],[]⟩,[]⟩:qc):=⟨.zero,by simp,by simp⟩
theorem tmod_pos{a p:Int}(h:0≤a):a.tmod p=a% p:=vY h
theorem tmod_cg{a p:Int}:Cg p (a.tmod p) a:=⟨-(a.tdiv p),by have:=Int.tmod_add_mul_tdiv a p; grind⟩
theorem F127_eq{p x:Int}(hp:2≤p∧p≤7):F127 p x=some (x% p):=by
 have h1:=Int.tmod_lt_of_pos x (show 0 < p by omega);have h2: -p < x.tmod p:=by
  have h3:=Int.tmod_lt_of_pos (-x) (show 0 < p by omega);rw[Int.neg_tmod]at h3; omega
 unfold F127;rw[jk (by omega),ob,qo (by omega) (by omega),ob,jk (by omega),ob,tmod_pos (by omega)]
 congr 1
 exact Cg.emod ((tmod_cg.add (Cg.refl p p)).trans ⟨1,by grind⟩)
theorem idx_loop{α:Type}{l:List α}(g:Nat→α→α){B:Int→List α→Option (List α⊕List α)}{D:Int→List α→Option (List α)}(hl:l.length≤1048576)
  (hB:∀ (i:Nat) (hi:i < l.length) (s:List α),s.length=l.length→(∀k,s[k]? =if k < i then(l[k]?).map (g k)else l[k]?)→B i s=some (.inl (s.set i (g i l[i])))) (hD:∀i s,D i s=some s):forR 0 (l.length:Int) B D l=some (l.mapIdx g):=by
 obtain⟨t,h1,h2⟩:=qt (B:=B) (D:=D) l.length rfl (by omega) (fun i s=> s.length=l.length∧∀k,s[k]? =if k < i then(l[k]?).map (g k)else l[k]?) (fun t=> t=l.mapIdx g) (s:=l) ⟨rfl,fun k=> by simp⟩ (by
  rintro i s hi ⟨p1,p2⟩;left;refine⟨_,hB i hi s p1 p2,by rw[yN]; exact p1,fun k=>?_⟩;rw[List.getElem?_set];by_cases e:i=k
  ·subst e; rw[if_pos rfl,if_pos (by omega),if_pos (by omega)]; simp[hi]
  ·rw[if_neg e,p2 k]
   by_cases q:k < i
   ·rw[if_pos q,if_pos (by omega)]
   ·rw[if_neg q,if_neg (by omega)]) (by
  rintro s ⟨p1,p2⟩;refine⟨s,hD _ _,?_⟩;apply List.ext_getElem?;intro k;rw[p2 k,List.getElem?_mapIdx];by_cases q:k < l.length
  ·rw[if_pos q]
  ·rw[if_neg q,List.getElem?_eq_none (by omega)]; rfl)
 rw[h1,h2]
theorem zN{v:List Int}{j:Nat}(h:j < v.length):getI v (j:Int)=some (nth v j):=by rw[qn h,zw h]
theorem rng_mul{p a b:Int}(hp:2≤p∧p≤7)(ha:0≤a∧a < p)(hb:0≤b∧b < p):0≤a*b∧a*b≤49:=by
 refine⟨Int.mul_nonneg ha.1 hb.1,?_⟩;have:=Int.mul_le_mul (show a≤7 by omega) (show b≤7 by omega) hb.1 (by decide);omega
theorem scl_loop{p k:Int}{w:Nat}(hp:2≤p∧p≤7)(hk:0≤k∧k < p){v:List Int}(hv:qW p w v)(hw:w≤1048576){B:Int→List Int→Option (List Int⊕List Int)}{D:Int→List Int→Option (List Int)}
  (hB:∀i row,B i row=(getI row i).bind fun x=>(chk (x*k)).bind fun m=>(remI m p).bind fun z=>(setI row i z).bind fun r=> some (.inl r)) (hD:∀i s,D i s=some s):forR 0 (v.length:Int) B D v=some (scl p v k):=by
 have hl:=hv.len;rw[idx_loop (fun _ x=> x*k% p) (by omega) (fun i hi s hs hk'=>?_) hD]
 ·congr 1
  apply yV <;> simp[scl]
 ·have h1:s[i]? =v[i]?:=by rw[hk' i,if_neg (Nat.lt_irrefl _)]
  have h2:s[i]'(by omega)=v[i]:=by
   have:=h1;rw[List.getElem?_eq_getElem (by omega),List.getElem?_eq_getElem hi]at this;exact wA this
  have hr:=hv.rng i (by omega);rw[zw hi]at hr;have hm:=rng_mul hp hr hk;rw[hB,qn (show i < s.length by omega),ob,h2,qo (by omega) (by omega),ob,jk (by omega),ob,zu (by omega),ob,tmod_pos hm.1]
theorem F136_eq{p k:Int}{w:Nat}(hp:2≤p∧p≤7)(hk:0≤k∧k < p){v u:List Int}(hv:qW p w v)(hu:qW p w u)(hw:w≤1048576):F136 p v u k=some (subv p v u k):=by
 have hl:=hv.len;have hul:=hu.len;have hsl:(subv p v u k).length=w:=by simp[subv,hl,hul]
 unfold F136;obtain⟨t,g1,g2⟩:=qt (B:=F136_1_B p v u k) (D:=F136_1_D p v u k) v.length rfl (by omega) (fun i s=> s=(subv p v u k).take i) (fun t=> t=subv p v u k) (s:=[]) (by simp) (by
  rintro i s hi rfl;left;have hiw:i < w:=by omega
  have h1:=hv.rng i hiw;have h2:=hu.rng i hiw;have hm:=rng_mul hp hk h2;refine⟨(subv p v u k).take (i+1),?_,rfl⟩;unfold F136_1_B;rw[zN hi,ob,zN (by omega),ob,qo (by omega) (by omega),ob,qo (by omega) (by omega),ob,F127_eq hp,ob,qN (by simp; omega) (by simp; omega),ob]
  congr 2
  rw[←vM (show i < (subv p v u k).length by omega)]
  congr 2
  have:=jr (p:=p) (k:=k) hl hul hiw;rw[zw (by omega)]at this;exact this.symm) (by
  rintro s rfl;refine⟨_,rfl,?_⟩;rw[wZ (by omega)])
 rw[g1,ob,g2]
theorem F81_ld{r:List Int}(hl:r.length≤1048576):F81 r=some (if ld r < r.length then(ld r:Int)else -1):=by
 unfold F81;obtain⟨t,g1,g2⟩:=qt (B:=F81_1_B r) (D:=F81_1_D r) r.length rfl (by omega) (fun i _=> i≤ld r) (fun t=>(t= .inl ()∧r.length≤ld r)∨(t= .inr (ld r:Int)∧ld r < r.length)) (s:=()) (yF _) (by
  rintro i _ hi hI;unfold F81_1_B;rw[zN hi,ob];by_cases h:nth r i=0
  ·left
   rw[if_pos h];refine⟨(),rfl,?_⟩;rcases vC i (ld r)with q|q
   ·exact q
   ·have:i=ld r:=by omega
    subst this;exact absurd h (ld_ne hi)
  ·right
   rw[if_neg h];refine⟨_,rfl,.inr ?_⟩;have:ld r=i:=by
    rcases vC i (ld r)with q|q
    ·exact absurd (ja q) h
    ·omega
   rw[this]; exact⟨rfl,hi⟩) (by
  rintro _ hI;exact⟨_,rfl,.inl ⟨rfl,hI⟩⟩)
 rw[g1,ob];rcases g2 with⟨rfl,h⟩|⟨rfl,h⟩
 ·rw[if_neg (by omega)]
 ·rw[if_pos h]
theorem inv_ex{p x:Int}(hp:IsP p)(h1:1≤x)(h2:x < p):∃m,1≤m∧m < p∧m*x% p=1:=by
 unfold IsP at hp;rcases hp with rfl|rfl|rfl|rfl
 ·obtain rfl:x=1:=by omega
  exact⟨1,by decide⟩
 ·have:x=1∨x=2:=by omega
  rcases this with rfl|rfl
  ·exact⟨1,by decide⟩
  ·exact⟨2,by decide⟩
 ·have:x=1∨x=2∨x=3∨x=4:=by omega
  rcases this with rfl|rfl|rfl|rfl
  ·exact⟨1,by decide⟩
  ·exact⟨3,by decide⟩
  ·exact⟨2,by decide⟩
  ·exact⟨4,by decide⟩
 ·have:x=1∨x=2∨x=3∨x=4∨x=5∨x=6:=by omega
  rcases this with rfl|rfl|rfl|rfl|rfl|rfl
  ·exact⟨1,by decide⟩
  ·exact⟨4,by decide⟩
  ·exact⟨5,by decide⟩
  ·exact⟨2,by decide⟩
  ·exact⟨3,by decide⟩
  ·exact⟨6,by decide⟩
theorem cg_one{p a:Int}(hp:2≤p∧p≤7)(h:a% p=1):Cg p a 1:=by
 have:=(Cg.mod p a).symm
 rwa[h]at this
theorem F135_eq{p x:Int}(hp:IsP p)(h1:1≤x)(h2:x < p):∃k,F135 p x=some k∧0≤k∧k < p∧Cg p (x*k) 1:=by
 have hr:=hp.range;obtain⟨m,m1,m2,m3⟩:=inv_ex hp h1 h2;obtain⟨n,hn⟩:∃n:Nat,p=n:=⟨p.toNat,by omega⟩;obtain⟨t,g1,k,rfl,g2,g3,g4⟩:=forR_from (B:=F135_1_B p x) (D:=F135_1_D p x) (lo:=1) (hi:=p) 1 n rfl hn (by omega) (by omega) (fun i _=> 1≤i∧∀j:Int,1≤j→j < i→j*x% p≠1) (fun t=>∃k:Int,t= .inr k∧0≤k∧k < p∧Cg p (x*k) 1) (s:=()) ⟨wG _,fun j a b=> by omega⟩ (by
  rintro i _ hi ⟨h0,hI⟩;unfold F135_1_B;have hm:=rng_mul hr (show 0≤(i:Int)∧(i:Int) < p by omega) (show 0≤x∧x < p by omega);rw[F127_eq hr,ob,yC (show 0≤x by omega) h2,qo (by omega) (by omega),ob,jk (by omega),ob,tmod_pos hm.1];by_cases h:(i:Int)*x% p=1
  ·right
   rw[if_pos h];exact⟨_,rfl,_,rfl,by omega,by omega,by rw[Int.mul_comm]; exact cg_one hr h⟩
  ·left
   rw[if_neg h];refine⟨(),rfl,by omega,fun j a b=>?_⟩;by_cases e:j=i
   ·subst e; exact h
   ·exact hI j a (by omega)) (by
  rintro _ ⟨h0,hI⟩;exact absurd m3 (hI m m1 (by omega)))
 unfold F135;rw[g1,ob];exact⟨k,rfl,g2,g3,g4⟩
theorem F138_eq{p x:Int}(hp:IsP p)(h1:1≤x)(h2:x < p):∃k,F138 p x=some k∧0≤k∧k < p∧Cg p (x*k) 1:=by
 have hr:=hp.range;obtain⟨m,m1,m2,m3⟩:=inv_ex hp h1 h2;obtain⟨t,g1,g2,g3,g4⟩:=zV (S:=F138_1_S p x) (fun v=>(m - v).toNat) (fun v=> 1≤v∧v≤m) (fun t=> 0≤t∧t < p∧Cg p (x*t) 1) (s:=1) ⟨by decide,m1⟩ (by
  rintro v ⟨v1,v2⟩;unfold F138_1_S;have hm:=rng_mul hr (show 0≤v∧v < p by omega) (show 0≤x∧x < p by omega);rw[qo (by omega) (by omega),ob,jk (by omega),ob,tmod_pos hm.1];by_cases h:v*x% p=1
  ·right
   rw[if_pos h];exact⟨_,rfl,by omega,by omega,by rw[Int.mul_comm]; exact cg_one hr h⟩
  ·left
   have hne:v≠m:=fun e=> by rw[e]at h; exact h m3
   rw[if_neg h,qo (by omega) (by omega),ob];exact⟨_,rfl,⟨by omega,by omega⟩,by omega⟩)
 unfold F138;rw[g1,ob];exact⟨t,rfl,g2,g3,g4⟩
theorem F139_eq{p k:Int}{w:Nat}(hp:2≤p∧p≤7)(hk:0≤k∧k < p){r o:List Int}(hr:qW p w r)(ho:qW p w o)(hw:w≤1048576):F139 r o p k=some (subv p r o k):=by
 have hl:=hr.len;have hol:=ho.len;unfold F139;rw[show(o.length:Int)=(r.length:Int) by omega,idx_loop (l:=r) (B:=F139_1_B o p k) (D:=F139_1_D) (fun i x=>(x - k*nth o i)% p) (by omega) (fun i hi s hs hk'=>?_) (fun i s=> rfl)]
 ·congr 1
  have hsl:(subv p r o k).length=w:=by simp[subv,hl,hol]
  apply yV (by simp[hl,hsl]);intro i h1 h2;have hi:i < w:=by omega
  have:=jr (p:=p) (k:=k) hl hol hi;rw[zw h2,zw (show i < r.length by omega)]at this;rw[this]; simp
 ·have h1:s[i]? =r[i]?:=by rw[hk' i,if_neg (Nat.lt_irrefl _)]
  have h2:s[i]'(by omega)=r[i]:=by
   have:=h1;rw[List.getElem?_eq_getElem (by omega),List.getElem?_eq_getElem hi]at this;exact wA this
  have a1:=hr.rng i (by omega);rw[zw hi]at a1;have a2:=ho.rng i (by omega);have hm:0≤(p - k)*nth o i∧(p - k)*nth o i≤49:=by
   refine⟨Int.mul_nonneg (by omega) a2.1,?_⟩;have:=Int.mul_le_mul (show p - k≤7 by omega) (show nth o i≤7 by omega) a2.1 (by decide);omega
  unfold F139_1_B;rw[zN (by omega),ob,qn (show i < s.length by omega),ob,h2,qo (by omega) (by omega),ob,qo (by omega) (by omega),ob,qo (by omega) (by omega),ob,jk (by omega),ob,zu (by omega),ob,tmod_pos (by omega)]
  congr 3
  exact Cg.emod ⟨nth o i,by grind⟩
theorem F134_eq{p:Int}{w:Nat}(hp:2≤p∧p≤7){R:List (List Int)}(hR:Red p w R){v:List Int}(hv:qW p w v)(hw:w≤1048576)(hn:R.length≤1048576):F134 p R v=some (rest p R v):=by
 have hp0:0 < p:=by omega
 unfold F134;rw[F94_eq (by rw[hv.len]; exact hw),ob];have key:∀i,i≤R.length→qW p w (rest p (R.take i) v):=fun i _=> jT hp0 (fun r hr=> hR.ok r (vB hr)) hv;obtain⟨t,g1,g2⟩:=qt (B:=F134_1_B p R) (D:=F134_1_D p R) R.length rfl (by omega) (fun i s=> s=rest p (R.take i) v) (fun t=> t=rest p R v) (s:=v) rfl (by
  rintro i s hi rfl;left;refine⟨_,?_,rfl⟩;have hk:=key i (by omega);have hm:=wF hi;have hok:=hR.ok _ hm;have hone:=hR.one _ hm;unfold F134_1_B;rw[qn hi,ob,F81_ld (by rw[hok.len]; exact hw),if_pos (by rw[hok.len]; exact hone.1),ob,zN (by rw[hk.len]; exact hone.1),ob,F136_eq hp (hk.rng _ hone.1) hk hok hw,ob]
  congr 2
  rw[←vM hi];unfold rest;rw[List.foldl_append]; rfl) (by
  rintro s rfl;exact⟨_,rfl,by rw[vQ]⟩)
 rw[g1,ob,g2]
theorem ins_cons{p:Int}{own:List Int}{a:Nat}{o:List Int}{out:List (List Int)}:ins p own a (o::out)=if a < ld o then own::insF p own a o::out.map (insF p own a)else insF p own a o::ins p own a out:=rfl
theorem F131_3_eq{p:Int}{w a:Nat}(hp:2≤p∧p≤7){out:List (List Int)}{own:List Int}(hR:Red p w out)(n:New p w out own a)(hw:w≤1048576)(hn:out.length≤1000000):
  ∃nx put,forR 0 (out.length:Int) (F131_3_B p out own a) F131_3_D ([],false)=some (nx,put)∧(if put=true then nx else nx++[own])=ins p own a out∧nx.length≤2000000:=by
 obtain⟨t,g1,g2,g3⟩:=qt (B:=F131_3_B p out own a) (D:=F131_3_D) out.length rfl (by omega) (fun i s=> s.1.length≤2*i∧(s.2=true→s.1++(out.drop i).map (insF p own a)=ins p own a out)∧(s.2=false→s.1++ins p own a (out.drop i)=ins p own a out))
  (fun t=>(if t.2=true then t.1 else t.1++[own])=ins p own a out∧t.1.length≤2000000) (s:=([],false)) ⟨by simp,by simp,by simp⟩ (by
  rintro i ⟨nx,put⟩ hi ⟨p1,p2,p3⟩;simp only at p1 p2 p3;left;have hm:=wF hi;have hok:=hR.ok _ hm;have hone:=hR.one _ hm;have hr:=hok.rng a n.lt;have hq:F136 p out[i] own (nth out[i] a)=some (insF p own a out[i]):=F136_eq hp hr hok n.ok hw;rw[yB hi]at p2 p3;unfold F131_3_B F131_3_C;simp only;cases put with
  |true=>
   have e:=p2 rfl;rw[if_pos rfl,ob,if_neg wC,ob,qn hi,ob,zN (by rw[hok.len]; exact n.lt),ob,hq,ob,qN (by simp; omega) (by simp; omega),ob];exact⟨_,rfl,by simp; omega,fun _=> by rw[←e]; simp only[vA,wY,vJ,vN],fun h=> by cases h⟩
  |false=>
   have e:=p3 rfl;rw[if_neg wC,qn hi,ob,F81_ld (by rw[hok.len]; exact hw),if_pos (by rw[hok.len]; exact hone.1),ob,ob];by_cases h:a < ld out[i]
   ·have hd:decide ((a:Int) < (ld out[i]:Int))=true:=by simpa using h
    rw[ins_cons,if_pos h]at e;rw[hd,if_pos rfl,qN (by simp; omega) (by simp; omega),ob,ob,ob,zN (by rw[hok.len]; exact n.lt),ob,hq,ob,qN (by simp; omega) (by simp; omega),ob];exact⟨_,rfl,by simp; omega,fun _=> by rw[←e]; simp only[vA,wY,vJ,vN],fun h=> by cases h⟩
   ·have hd:decide ((a:Int) < (ld out[i]:Int))=false:=by simpa using h
    rw[ins_cons,if_neg h]at e;rw[hd,if_neg wC,ob,ob,zN (by rw[hok.len]; exact n.lt),ob,hq,ob,qN (by simp; omega) (by simp; omega),ob];exact⟨_,rfl,by simp; omega,(fun h=> by cases h),fun _=> by rw[←e]; simp only[wY,vJ,vN]⟩) (by
  rintro⟨nx,put⟩ ⟨p1,p2,p3⟩;simp only at p1 p2 p3;refine⟨_,rfl,?_,by simp only; omega⟩;rw[List.drop_length]at p2 p3;cases put with
  |true=> simpa using p2 rfl
  |false=> simpa[ins]using p3 rfl)
 exact⟨t.1,t.2,g1,g2,g3⟩
theorem F131_ech{p:Int}{w:Nat}(hp:IsP p){rows:List (List Int)}(hr:Rows p w rows)(hw:w≤1048576)(hn:rows.length≤1000000):∃out,F131 p rows=some out∧jK p w rows out:=by
 have hpr:=hp.range;have hp1:1 < p:=by omega
 obtain⟨t,g1,g2,g3⟩:=qt (B:=F131_1_B p rows) (D:=F131_1_D) rows.length rfl (by omega) (fun i s=> jK p w (rows.take i) s∧s.length≤i) (fun t=> jK p w rows t∧t.length≤rows.length) (s:=[]) ⟨.nil p w,wG _⟩ (by
  rintro i out hi ⟨p1,p2⟩;left;have hrow:=hr _ (wF hi);have hrt:Rows p w (rows.take i):=fun r h=> hr r (vB h);have hrest:=jT (show 0 < p by omega) p1.red.ok hrow;have hl:¬(ld (rest p out rows[i]) < w)∨ld (rest p out rows[i]) < w:=by omega
  unfold F131_1_B;rw[qn hi,ob,F134_eq hpr p1.red hrow hw (by omega),ob,F81_ld (by rw[hrest.len]; exact hw),ob,hrest.len];rcases hl with hl|hl
  ·rw[if_neg hl,if_pos (by decide)]
   refine⟨out,rfl,?_,by omega⟩;rw[←vM hi];exact p1.skip hp1 hrt hrow fun j hj=> ja (by omega)
  ·rw[if_pos hl,if_neg (by omega)]
   have hne:=ld_ne (r:=rest p out rows[i]) (by rw[hrest.len]; exact hl);have hrg:=hrest.rng _ hl;obtain⟨k,k1,k2,k3,k4⟩:=F135_eq hp (x:=nth (rest p out rows[i]) (ld (rest p out rows[i]))) (by omega) hrg.2;have n:=p1.new hp1 hrow hl (fun j hj=> ja hj) k4;obtain⟨nx,put,q1,q2,q3⟩:=F131_3_eq hpr p1.red n hw (by omega);have hlen:((rest p out rows[i]).length:Int)=(w:Int):=by rw[hrest.len]
   have hsc:=scl_loop hpr ⟨k2,k3⟩ hrest hw (B:=F131_2_B p k) (D:=F131_2_D) (fun i row=> rfl) (fun i s=> rfl);have hput:=p1.put hp1 hrt hrow hl (fun j hj=> ja hj) k4;rw[vM hi]at hput;rw[zN (by rw[hrest.len]; exact hl),ob,k1,ob,←hlen,hsc,ob,q1,ob];simp only;cases put with
   |true=>
    rw[if_pos rfl]at q2 ⊢;rw[q2];exact⟨_,rfl,hput,by rw[ins_len]; omega⟩
   |false=>
    rw[if_neg wC]at q2 ⊢;rw[qN (by simp; omega) (by simp; omega),ob,q2];exact⟨_,rfl,hput,by rw[ins_len]; omega⟩) (by
  rintro out ⟨p1,p2⟩;rw[vQ]at p1;exact⟨_,rfl,p1,p2⟩)
 exact⟨t,g1,g2⟩
theorem F128_first{l:List (List Int)}{f:List Int→Option Bool}(P:List Int→Bool)(hl:l.length≤1048576)(hf:∀x∈l,f x=some (P x)):∃i:Int,F128 l f=some i∧((i= -1∧∀x∈l,P x=false)∨∃m:Nat,i=m∧m < l.length∧P (qJ l m)=true):=by
 unfold F128;obtain⟨t,h1,h2⟩:=qt (B:=xM l f) (D:=F128_1_D l f) (hi:=l.length) l.length rfl (by omega) (fun i _=>∀k (hk:k < i) (h2:k < l.length),P l[k]=false) (fun t=>(t= .inl ()∧∀x∈l,P x=false)∨∃m:Nat,t= .inr (m:Int)∧m < l.length∧P (qJ l m)=true) (s:=()) (fun k hk=> by omega) (by
  intro i _ hi hI;unfold xM;rw[qn hi,ob,hf _ (wF hi),ob];cases hp:P l[i]with
  |true=> right; exact⟨_,rfl,.inr ⟨i,rfl,hi,by rw[qQ hi]; exact hp⟩⟩
  |false=>
   left;refine⟨(),rfl,fun k hk h2=>?_⟩;by_cases e:k=i
   ·subst e; exact hp
   ·exact hI k (by omega) h2) (by
  intro _ hI;refine⟨.inl (),rfl,.inl ⟨rfl,fun x hx=>?_⟩⟩;obtain⟨k,hk,rfl⟩:=vL hx;exact hI k hk hk)
 rw[h1,ob];rcases h2 with⟨rfl,h2⟩|⟨m,rfl,h2⟩
 ·exact⟨_,rfl,.inl ⟨rfl,h2⟩⟩
 ·exact⟨_,rfl,.inr ⟨m,rfl,h2⟩⟩
theorem gstep_loop{p:Int}{w c d:Nat}(hp:2≤p∧p≤7){l:List (List Int)}{row:List Int}(hl:Rows p w l)(hd:d < l.length)(hrow:qJ l d=row)(hc:c < w)(hw:w≤1048576)(hn:l.length≤1000000):
  forR 0 (l.length:Int) (F133_4_B p c d) F133_4_D l=some (jF p c d row l):=by
 have hdr:=hl _ (jw hd);rw[hrow]at hdr;rw[idx_loop (l:=l) (B:=F133_4_B p c d) (D:=F133_4_D) (fun i r=> if i=d then r else subv p r row (nth r c)) (by omega) (fun i hi s hs hk=>?_) (fun i s=> rfl)]
 ·unfold jF
  congr 1
  have:l.set d row=l:=by
   rw[←hrow,qQ hd]; exact List.set_getElem_self hd
  rw[this]
 ·have h1:s[i]'(by omega)=l[i]:=by
   have:=hk i;rw[if_neg (Nat.lt_irrefl _),List.getElem?_eq_getElem (by omega),List.getElem?_eq_getElem hi]at this;exact wA this
  have h2:s[d]'(by omega)=row:=by
   have:=hk d;rw[List.getElem?_eq_getElem (by omega),List.getElem?_eq_getElem hd]at this;rw[←hrow,qQ hd];split at this
   ·simpa using this
   ·exact wA this
  unfold F133_4_B;by_cases e:i=d
  ·subst e
   rw[if_pos rfl,if_pos rfl,←h1,List.set_getElem_self]
  ·have hr:=hl _ (wF hi)
   have hrc:=hr.rng c hc;rw[if_neg (by omega),if_neg e,qn (show i < s.length by omega),ob,qn (show d < s.length by omega),ob,h1,h2,zN (by rw[hr.len]; exact hc),ob,F139_eq hp hrc hr hdr hw,ob,zu (by omega),ob]
theorem F133_ech{p:Int}{w:Nat}(hp:IsP p){rows:List (List Int)}(hr:Rows p w rows)(hw:w≤1048576)(hn:rows.length≤1000000):∃out,F133 p rows=some out∧jK p w rows out:=by
 have hpr:=hp.range;have hp1:1 < p:=by omega
 unfold F133;rw[cpy_loop (l:=rows) (B:=F133_1_B rows) (D:=F133_1_D) (by omega) (fun i hi s hs=> by
  unfold F133_1_B;have:=hr _ (wF hi);rw[qn hi,ob,F96_eq (by rw[this.len]; exact hw),ob,qN (by simp; omega) (by simp; omega),ob]) (fun i s=> rfl),ob]
 by_cases h0:(rows.length:Int)=0
 ·rw[if_pos h0]
  have:rows=[]:=vP (by omega);subst this;exact⟨_,rfl,.nil p w⟩
 rw[if_neg h0];have hpos:0 < rows.length:=by omega
 have e0:=qn hpos;simp only[Int.natCast_zero]at e0;have hw0:=(hr _ (wF hpos)).len;rw[show(0:Int)=((0:Nat):Int) from rfl,qn hpos,ob];obtain⟨t,g1,g2,g3,g4⟩:=qt (B:=F133_2_B p) (D:=F133_2_D) (hi:=(rows[0].length:Int)) w (by rw[hw0]) (by omega) (fun c s=>∃d:Nat,s.2=d∧d < s.1.length∧s.1.length=rows.length∧GInv p w rows c s.1 d)
  (fun t=> jK p w rows (t.1.take t.2.toNat)∧0≤t.2∧t.2≤t.1.length) (s:=(rows,0)) ⟨0,rfl,hpos,rfl,.start hr⟩ (by
  rintro c ⟨l,dd⟩ hc ⟨d,p1,p2,p3,g⟩;simp only at p1 p2 p3 g;subst p1;have hrl:∀x∈l.drop d,(fun r=> F137 r (c:Int)) x=some (!decide (nth x c=0)):=fun x hx=> by
   have hx':=g.ok x (yM hx);show F137 x c=_;unfold F137;rw[zN (by rw[hx'.len]; exact hc),ob]
  obtain⟨at_,a1,a2⟩:=F128_first (fun x=> !decide (nth x c=0)) (l:=l.drop d) (by simp; omega) hrl;unfold F133_2_B;simp only;rw[if_pos ⟨by omega,by omega⟩,vR,a1,ob];rcases a2 with⟨rfl,a2⟩|⟨m,rfl,a2,a3⟩
  ·rw[if_pos (by decide)]
   left;refine⟨_,rfl,d,rfl,p2,p3,g.skip hc fun i h1 h2=>?_⟩;have hx:qJ l i∈l.drop d:=by
    rw[qQ h2,List.mem_iff_getElem];exact⟨i - d,by simp; omega,by simp[show d+(i - d)=i by omega]⟩
   simpa using a2 _ hx
  ·have hml:m < l.length - d:=by simpa using a2
   have hj:d+m < l.length:=by omega
   have hrm:qJ (l.drop d) m=qJ l (d+m):=by rw[qQ a2,qQ hj,List.getElem_drop]
   rw[hrm]at a3;have hne:nth (qJ l (d+m)) c≠0:=by simpa using a3
   have hrj:=g.ok _ (jw hj);have hrg:=hrj.rng c hc;obtain⟨k,k1,k2,k3,k4⟩:=F138_eq hp (x:=nth (qJ l (d+m)) c) (by omega) hrg.2
   -- the swapped list
   have h2l:((l.set d (qJ l (d+m))).set (d+m) (qJ l d)).length=l.length:=by simp
   have h2:∀i,i < l.length→qJ ((l.set d (qJ l (d+m))).set (d+m) (qJ l d)) i=qJ l (if i=d+m then d else if i=d then d+m else i):=fun i hi=> by
    rw[qQ (by simp; exact hi)];by_cases e:i=d+m
    ·subst e; rw[if_pos rfl]; simp
    ·rw[if_neg e,List.getElem_set_ne (yW e)]
     by_cases e2:i=d
     ·subst e2; rw[if_pos rfl]; simp
     ·rw[if_neg e2,List.getElem_set_ne (yW e2),qQ hi]
   have gp:=g.put hp1 hc (show d≤d+m by omega) hj k4 h2l h2;have hrd:qJ ((l.set d (qJ l (d+m))).set (d+m) (qJ l d)) d=qJ l (d+m):=by
    rw[h2 d p2];by_cases e:d=d+m
    ·rw[if_pos e,←e]
    ·rw[if_neg e,if_pos rfl]
   generalize hl2:(l.set d (qJ l (d+m))).set (d+m) (qJ l d)=l2 at*;have hsc:=scl_loop hpr ⟨k2,k3⟩ hrj hw (B:=F133_3_B p k) (D:=F133_3_D) (fun i row=> rfl) (fun i s=> rfl);have ok2:Rows p w (l2.set d (scl p (qJ l (d+m)) k)):=fun r hr'=> by
    rcases List.mem_or_eq_of_mem_set hr' with q|q
    ·obtain⟨i,hi,rfl⟩:=mem_row.1 q
     rw[h2 i (by omega)];refine g.ok _ (jw ?_);split
     ·exact p2
     ·split
      ·exact hj
      ·omega
    ·rw[q]; exact scl_ok (by omega) hrj k
   have hs3:(l2.set d (scl p (qJ l (d+m)) k)).length=l.length:=by simp[h2l]
   have hr3:qJ (l2.set d (scl p (qJ l (d+m)) k)) d=scl p (qJ l (d+m)) k:=by rw[qQ (by omega)]; simp
   have hgl:=gstep_loop hpr ok2 (show d < _ by omega) hr3 hc hw (by omega);have hgs:jF p c d (scl p (qJ l (d+m)) k) (l2.set d (scl p (qJ l (d+m)) k))=jF p c d (scl p (qJ l (d+m)) k) l2:=by unfold jF; rw[List.set_set]
   rw[hgs]at hgl;have hlen4:(jF p c d (scl p (qJ l (d+m)) k) l2).length=l.length:=by rw[gstep_len]; exact h2l
   have e1:getI l ((d+m:Nat):Int)=some (qJ l (d+m)):=by rw[qn hj,qQ hj]
   have e2:getI l (d:Int)=some (qJ l d):=by rw[qn p2,qQ p2]
   have e3:getI l2 (d:Int)=some (qJ l (d+m)):=by rw[qn (by omega),←qQ (by omega),hrd]
   rw[if_neg (by omega),qo (by omega) (by omega),ob,show(d:Int)+(m:Int)=((d+m:Nat):Int) by omega,e1,ob,e2,ob,zu p2,ob,zu (by simp; omega),ob,hl2,e3,ob,
    zN (by rw[hrj.len]; exact hc),ob,k1,ob,hsc,ob,zu (by omega),ob,hgl,ob,qo (by omega) (by omega),ob]
   by_cases hd1:(d:Int)+1=((jF p c d (scl p (qJ l (d+m)) k) l2).length:Int)
   ·right
    rw[if_pos hd1];refine⟨_,rfl,?_,by simp only; omega,by simp only; omega⟩;simp only;rw[show((d:Int)+1).toNat=d+1 by omega];exact gp.done hp1 (.inr (by omega))
   ·left
    rw[if_neg hd1];refine⟨_,rfl,d+1,by simp only; omega,by simp only; have:=gp.dn; omega,by simp only; omega,gp⟩) (by
  rintro⟨l,dd⟩ ⟨d,p1,p2,p3,g⟩;simp only at p1 p2 p3 g;subst p1;refine⟨_,rfl,?_,by simp only; omega,by simp only; omega⟩;simp only;rw[vR];exact g.done hp1 (.inl rfl))
 rw[show((0:Nat):Int)=(0:Int) from rfl,g1,ob,if_pos ⟨g3,g4⟩];exact⟨_,rfl,g2⟩
theorem zR{p:Int}{w:Nat}(hp:IsP p){rows:List (List Int)}(hr:Rows p w rows)(hw:w≤1048576)(hn:rows.length≤1000000):∃out,F131 p rows=some out∧F133 p rows=some out∧jK p w rows out:=by
 obtain⟨a,a1,a2⟩:=F131_ech hp hr hw hn;obtain⟨b,b1,b2⟩:=F133_ech hp hr hw hn;have:=a2.same (by have:=hp.range; omega) b2;subst this;exact⟨a,a1,b1,a2⟩
theorem F133_self{p:Int}{w:Nat}(hp:IsP p){E:List (List Int)}(h:Red p w E)(hw:w≤1048576)(hn:E.length≤1000000):F133 p E=some E:=by
 obtain⟨X, -,x2,x3⟩:=zR hp h.ok hw hn;rw[x2,x3.same (by have:=hp.range; omega) (jK.self h)]
theorem zF{p:Int}{w:Nat}{E:List (List Int)}(h:Red p w E):E.length≤w:=by
 have h1:=h.leads;have key:∀ (l:List Nat) (b:Nat),l.Pairwise (·< ·)→(∀x∈l,b≤x∧x < w)→l.length+b≤max w b:=by
  intro l;induction l with
  |nil=> intro b _ _; simp; omega
  |cons a l ih=>
   intro b hp hx;obtain⟨p1,p2⟩:=vV.1 hp;have ha:=hx a wK;have:=ih (a+1) p2 fun x hx'=>⟨p1 x hx',(hx x (wR _ hx')).2⟩;simp only[wX];omega
 have:=key (E.map ld) 0 h1 fun x hx=> by
  obtain⟨r,hr,rfl⟩:=vI.1 hx;exact⟨yF _,(h.one r hr).1⟩
 simpa using this
theorem set_app_right{r s:List Int}{i:Nat}(x:Int):(r++s).set (r.length+i) x=r++s.set i x:=by
 rw[uA _ _ (by omega)]; simp
theorem F125_1_eq{p:Int}{w:Nat}{rows:List (List Int)}(hr:Rows p w rows){x2:List Int}(hx:x2.length=w)(hw:w≤1000)(hn:rows.length≤1000):
  forR 0 (rows.length:Int) (F125_1_B p rows x2) (F125_1_D p rows x2) []=some (longs rows.length rows):=by
 have hl:=longs_len rows.length rows;obtain⟨t,g1,g2⟩:=qt (B:=F125_1_B p rows x2) (D:=F125_1_D p rows x2) rows.length rfl (by omega) (fun i s=> s=(longs rows.length rows).take i) (fun t=> t=longs rows.length rows) (s:=[]) (by simp) (by
  rintro i s hi rfl;left;have hri:=hr _ (wF hi);refine⟨(longs rows.length rows).take (i+1),?_,rfl⟩;unfold F125_1_B appZ;have hz:List.replicate ((rows.length:Int)).toNat (0:Int)=zv rows.length:=by simp[zv]
  have hzl:(zv rows.length).length=rows.length:=by simp[zv]
  have e:((x2.length:Int)+(i:Int))=((rows[i].length+i:Nat):Int):=by rw[hx,hri.len]; omega
  rw[qn hi,ob,F96_eq (by rw[hri.len]; omega),ob,if_pos ⟨by omega,by omega,by omega⟩,hz,qN (by rw[hri.len,hzl]; omega) (by rw[hri.len,hzl]; omega),ob,qo (by rw[hx]; omega) (by rw[hx]; omega),ob,e,qn (by rw[wJ,hzl]; omega),ob,
   zu (by rw[wJ,hzl]; omega),ob,qN (by simp; omega) (by simp; omega),ob,set_app_right]
  congr 2
  rw[←vM (show i < (longs rows.length rows).length by omega),longs_at,qQ hi];rfl) (by
  rintro s rfl;exact⟨_,rfl,by rw[wZ (by omega)]⟩)
 rw[g1,g2]
theorem F122_1_eq{p:Int}{w:Nat}{rows:List (List Int)}(hr:Rows p w rows)(hw:w≤1000)(hn:rows.length≤1000):
  forR 0 (rows.length:Int) (F122_1_B p rows.length rows) (F122_1_D p rows.length rows) ([],0)=some (longs rows.length rows,if rows.length=0 then 0 else(w:Int)):=by
 have hl:=longs_len rows.length rows;obtain⟨t,g1,g2⟩:=qt (B:=F122_1_B p rows.length rows) (D:=F122_1_D p rows.length rows) rows.length rfl (by omega) (fun i s=> s=((longs rows.length rows).take i,if i=0 then 0 else(w:Int))) (fun t=> t=(longs rows.length rows,if rows.length=0 then 0 else(w:Int))) (s:=([],0)) (by simp) (by
  rintro i s hi rfl;left;have hri:=hr _ (wF hi);refine⟨((longs rows.length rows).take (i+1),if i+1=0 then 0 else(w:Int)),?_,rfl⟩;unfold F122_1_B;simp only;have hzl:(zv rows.length).length=rows.length:=by simp[zv]
  rw[mkL_ok rows.length rfl (by omega) (by omega),ob]
  change (getI (zv rows.length) (i:Int)).bind _=_
  rw[qn (by omega),ob]
  change (setI (zv rows.length) (i:Int) 1).bind _=_
  rw[zu (by omega),ob,qn hi,ob,F94_eq (by rw[hri.len]; omega),ob,qN (by simp[zv,hri.len]; omega) (by simp[zv,hri.len]; omega),ob,qN (by simp; omega) (by simp; omega),ob,if_neg (by omega),hri.len]
  congr 3
  rw[←vM (show i < (longs rows.length rows).length by omega),longs_at,qQ hi];rfl) (by
  rintro s rfl;exact⟨_,rfl,by rw[wZ (by omega)]⟩)
 rw[g1,g2]
theorem tails_take{w i:Nat}{E:List (List Int)}(hi:i < E.length):xh w (E.take (i+1))=if w≤ld E[i]then xh w (E.take i)++[E[i].drop w]else xh w (E.take i):=by
 unfold xh;rw[←vM hi,List.filter_append,vT];by_cases h:w≤ld E[i]
 ·rw[if_pos h]; simp[h]
 ·rw[if_neg h]; simp[h]
theorem tails_len{w:Nat}{E:List (List Int)}:(xh w E).length≤E.length:=by
 unfold xh;rw[yA]; exact List.length_filter_le _ _
theorem F122_2_eq{p:Int}{w n:Nat}{E:List (List Int)}(h:Red p (w+n) E)(hw:w+n≤10000):
  forR 0 (E.length:Int) (xN w E) (F122_2_D w E) []=some (xh w E):=by
 have hE:=zF h;obtain⟨t,g1,g2⟩:=qt (B:=xN w E) (D:=F122_2_D w E) E.length rfl (by omega) (fun i s=> s=xh w (E.take i)) (fun t=> t=xh w E) (s:=[]) (by simp[xh]) (by
  rintro i s hi rfl;left;have hk:=h.ok _ (wF hi);have ho:=h.one _ (wF hi);have htl:(xh w (E.take i)).length≤10000:=by have:=tails_len (w:=w) (E:=E.take i); simp at this; omega
  refine⟨xh w (E.take (i+1)),?_,rfl⟩;rw[tails_take hi];unfold xN;rw[qn hi,ob,F81_ld (by rw[hk.len]; omega),if_pos (by rw[hk.len]; exact ho.1),ob];by_cases q:w≤ld E[i]
  ·rw[if_pos (by omega),if_pos q]
   unfold slI;rw[if_pos ⟨by omega,by rw[hk.len]; omega,yG _⟩,ob,vR,vR,vQ,F94_eq (by simp[hk.len]; omega),ob,qN (by simp; omega) (by simp; omega),ob]
  ·rw[if_neg (by omega),if_neg q]) (by
  rintro s rfl;exact⟨_,rfl,by rw[vQ]⟩)
 rw[g1,g2]
theorem isZero_take{r:List Int}{w:Nat}(h:w≤r.length):(∀x∈r.take w,x=0)↔w≤ld r:=by
 constructor
 ·intro hx
  refine Nat.le_of_not_lt fun q=>?_;have hl:ld r < r.length:=by omega
  refine ld_ne hl (by rw[zw hl]; exact hx _ (List.mem_take_iff_getElem.2 ⟨ld r,by omega,rfl⟩))
 ·intro q x hx
  obtain⟨i,hi,rfl⟩:=List.mem_take_iff_getElem.1 hx;have:=ja (r:=r) (j:=i) (by omega)
  rwa[zw (by omega)]at this
theorem F125_2_eq{p:Int}{w n:Nat}{E:List (List Int)}(h:Red p (w+n) E)(hw:w+n≤10000){x2:List Int}(hx:x2.length=w):
  forR 0 (E.length:Int) (F125_2_B p x2 E) (F125_2_D p x2 E) []=some (xh w E):=by
 have hE:=zF h;obtain⟨t,g1,g2⟩:=qt (B:=F125_2_B p x2 E) (D:=F125_2_D p x2 E) E.length rfl (by omega) (fun i s=> s=xh w (E.take i)) (fun t=> t=xh w E) (s:=[]) (by simp[xh]) (by
  rintro i s hi rfl;left;have hk:=h.ok _ (wF hi);have ho:=h.one _ (wF hi);have htl:(xh w (E.take i)).length≤10000:=by have:=tails_len (w:=w) (E:=E.take i); simp at this; omega
  refine⟨xh w (E.take (i+1)),?_,rfl⟩;rw[tails_take hi];unfold F125_2_B slI;rw[qn hi,ob,hx,if_pos ⟨by omega,by omega,by rw[hk.len]; omega⟩,ob,vR,Int.toNat_zero,vW];rcases((F92_tells (l:=E[i].take w) (by simp; omega)).iff (isZero_take (by rw[hk.len]; omega))).case with⟨e,q⟩|⟨e,q⟩
  ·rw[e,ob,if_pos rfl,if_pos q,if_pos ⟨by omega,by rw[hk.len]; omega,yG _⟩,ob,vR,vQ,qN (by simp; omega) (by simp; omega),ob]
  ·rw[e,ob,if_neg wC,if_neg q]) (by
  rintro s rfl;exact⟨_,rfl,by rw[vQ]⟩)
 rw[g1,g2]
theorem kernel_same{p:Int}{w:Nat}(hp:IsP p){rows:List (List Int)}(hr:Rows p w rows)(hw:w≤1000)(hn:rows.length≤1000):∃K,F122 p rows.length rows=some K∧F125 p rows=some K∧Red p rows.length K:=by
 have hp1:1 < p:=by have:=hp.range; omega
 unfold F122 F125;rw[F122_1_eq hr hw hn,ob];simp only;by_cases h0:rows.length=0
 ·have:rows=[]:=vP h0
  subst this;have e:(longs ([]:List (List Int)).length [])=[]:=by simp[longs]
  obtain⟨E,e1, -,e3⟩:=zR hp (rows:=[]) (w:=0+0) (fun r h=>(nomatch h)) (by omega) (by simp);have hE:E=[]:=vP (by have:=zF e3.red; omega);subst hE;rw[e,e1,ob,if_pos (by simp),if_pos (by simp)];have:=F122_2_eq (w:=0) (n:=0) e3.red (by omega);have h2:forR 0 ((([]:List (List Int)).length:Nat):Int) (xN 0 []) (F122_2_D 0 []) []=some []:=this;rw[h2];exact⟨[],rfl,rfl,⟨fun r h=>(nomatch h),fun r h=>(nomatch h),.nil⟩⟩
 ·rw[if_neg h0,if_neg (by omega)]
  obtain⟨E,e1,e2,e3⟩:=zR hp (longs_ok hp1 hr) (by omega) (by rw[longs_len]; omega);have hpos:0 < rows.length:=by omega
  have hx0:=(hr _ (wF hpos)).len;have ht:=tails_red e3.red;rw[show(0:Int)=((0:Nat):Int) from rfl,qn hpos,ob,show((0:Nat):Int)=(0:Int) from rfl,e1,ob,F122_2_eq e3.red (by omega),ob,F125_1_eq hr hx0 hw hn,ob,e2,ob,F125_2_eq e3.red (by omega) hx0,ob,F133_self hp ht (by omega) (by have:=zF ht; omega),ob];exact⟨_,rfl,rfl,ht⟩
theorem RowOK.vec{p w:Int}{row:List Int}(h:RowOK p w row):qW p w.toNat row:=by
 have h1:=h.1;refine⟨by omega,fun j hj=>?_⟩;have hj':j < row.length:=by omega
 rw[zw hj'];have:=h.2 _ (wF hj');omega
theorem xA.dim{x:qh}(h:xA x){n:Nat}(hn:n < x.Dims.length):0≤x.Dims.getD n 0∧x.Dims.getD n 0≤8:=h.dims _ (zx hn 0)
theorem F99_at{x:qh}(hs:x.Dims.length≤1048576){n:Nat}(hn:n < x.Dims.length):F99 x (n:Int)=some (x.Dims.getD n 0):=by
 unfold F99;rw[qo (by omega) (by omega),ob,xg,ob,if_pos (by simp; omega),qz hn 0,ob]
theorem F102_at{x:qh}(hs:x.Dims.length≤1048576){n:Nat}(hn:n < x.Dims.length):F102 x (n:Int)=some (x.Dims.getD n 0):=by
 unfold F102;rw[F86_eq hs,ob,jM,ob,if_pos (by simp; omega),qz hn 0,ob]
theorem F76_0{x:qh}(hs:x.Dims.length≤1048576)(hl:0 < x.Dims.length){n:Nat}(hn:x.Dims.getD 0 0=n)(hn8:n≤1000):F76 x 0=some (List.replicate n []):=by
 unfold F76;rw[qo (by omega) (by omega),ob,xg,ob,if_neg (by simp)];have h99:F99 x 0=some (n:Int):=by have:=F99_at hs hl; rw[hn]at this; exact this
 obtain⟨t,g1,g2⟩:=zV (S:=F76_1_S x 0) (fun s=>(n - s.2).toNat) (fun s=> 0≤s.2∧s.2≤n∧s.1=List.replicate s.2.toNat []) (fun t=> t=List.replicate n []) (s:=([],0)) ⟨yG _,by omega,rfl⟩ (by
  rintro⟨l,j⟩ ⟨p1,p2,p3⟩;simp only at p1 p2 p3;subst p3;unfold F76_1_S;simp only;rw[h99,ob];by_cases hj:j < (n:Int)
  ·left
   rw[if_pos hj,qN (by simp; omega) (by simp; omega),ob,qo (by omega) (by omega),ob];refine⟨_,rfl,⟨by simp only; omega,by simp only; omega,?_⟩,by simp only; omega⟩;simp only;rw[show(j+1).toNat=j.toNat+1 from by omega,List.replicate_succ']
  ·right
   rw[if_neg hj];have:j.toNat=n:=by omega
   rw[this];exact⟨_,rfl,rfl⟩)
 rw[g1,ob,g2]
theorem F115_ld{r:List Int}(hl:r.length≤1048576)(h:ld r < r.length):F115 r (fun x=> F123 x)=some (ld r:Int):=by
 unfold F115;obtain⟨t,g1,g2⟩:=qt (B:=xO r (fun x=> F123 x)) (D:=F115_1_D r (fun x=> F123 x)) r.length rfl (by omega) (fun i _=> i≤ld r) (fun t=> t= .inr (ld r:Int)) (s:=()) (yF _) (by
  rintro i _ hi hI;unfold xO F123;rw[zN hi,ob,ob];by_cases q:nth r i=0
  ·left
   rw[if_neg (by simp[q])];refine⟨(),rfl,?_⟩;rcases vC i (ld r)with q2|q2
   ·exact q2
   ·have:i=ld r:=by omega
    subst this;exact absurd q (ld_ne hi)
  ·right
   rw[if_pos (by simp[q])];have:ld r=i:=by
    rcases vC i (ld r)with q2|q2
    ·exact absurd (ja q2) q
    ·omega
   exact⟨_,rfl,by rw[this]⟩) (by
  rintro _ hI;omega)
 rw[g1,ob,g2]
theorem F101_eq{p:Int}{w:Nat}{K:List (List Int)}(h:Red p w K)(hw:w≤1000):F101 K=some (K.map fun r=>(ld r:Int)):=by
 unfold F101;have hk:=zF h;obtain⟨t,g1,g2⟩:=qt (B:=F101_1_B K) (D:=F101_1_D K) K.length rfl (by omega) (fun i s=> s=(K.map fun r=>(ld r:Int)).take i) (fun t=> t=K.map fun r=>(ld r:Int)) (s:=[]) (by simp) (by
  rintro i s hi rfl;left;have hok:=h.ok _ (wF hi);have hone:=h.one _ (wF hi);refine⟨(K.map fun r=>(ld r:Int)).take (i+1),?_,rfl⟩;unfold F101_1_B;rw[qn hi,ob,F115_ld (by rw[hok.len]; omega) (by rw[hok.len]; exact hone.1),ob,qN (by simp; omega) (by simp; omega),ob]
  congr 2
  rw[←vM (show i < (K.map fun r=>(ld r:Int)).length by simpa using hi)];simp) (by
  rintro s rfl;exact⟨_,rfl,by rw[wZ (by simp)]⟩)
 rw[g1,ob,g2]
theorem zQ{α β:Type}{l:List α}(g:α→β){B:Int→List β→Option (List β⊕List β)}{D:Int→List β→Option (List β)}{s0:List β}(hl:l.length≤1000000)
  (hB:∀ (k:Nat) (hk:k < l.length) (s:List β),s.length=s0.length+k→B k s=some (.inl (s++[g l[k]]))) (hD:∀i s,D i s=some s):forR 0 (l.length:Int) B D s0=some (s0++l.map g):=by
 have hlen:l.length < 4611686018427387904:=by omega
 obtain⟨t,g1,g2⟩:=qt (B:=B) (D:=D) l.length rfl hlen (fun i s=> s=s0++(l.map g).take i) (fun t=> t=s0++l.map g) (s:=s0) (by simp) (by
  rintro i s hi rfl;left;refine⟨_,hB i hi _ (by simp; omega),?_⟩;have:i < (l.map g).length:=by simpa using hi
  rw[←vM this];simp) (by
  rintro s rfl;exact⟨_,hD _ _,by rw[wZ (by simp)]⟩)
 rw[g1,g2]
def coll{β:Type}(n:Nat)(f:Nat→List β):List β:=(List.range n).flatMap f
theorem coll_succ{β:Type}(n:Nat)(f:Nat→List β):coll (n+1) f=coll n f++f n:=by
 unfold coll; rw[yY,List.flatMap_append]; simp
theorem coll_len{β:Type}{f:Nat→List β}(h:∀i,(f i).length≤1):∀n,(coll n f).length≤n
 |0=> by simp[coll]
 |n+1=> by rw[coll_succ,wJ]; have:=coll_len h n; have:=h n; omega
theorem mem_coll{β:Type}{n:Nat}{f:Nat→List β}{b:β}:b∈coll n f↔∃i,i < n∧b∈f i:=by simp[coll]
theorem coll_map{β γ:Type}{n:Nat}{f:Nat→List β}(g:β→γ):(coll n f).map g=coll n fun i=>(f i).map g:=by simp[coll,List.map_flatMap]
theorem forR_coll{β:Type}{n:Nat}(f:Nat→List β){B:Int→List β→Option (List β⊕List β)}{D:Int→List β→Option (List β)}(hn:n≤1000000)(h1:∀i,(f i).length≤1)
  (hB:∀ (i:Nat) (s:List β),i < n→s.length≤i→B i s=some (.inl (s++f i))) (hD:∀i s,D i s=some s):forR 0 (n:Int) B D []=some (coll n f):=by
 have hlen:n < 4611686018427387904:=by omega
 obtain⟨t,g1,g2⟩:=qt (B:=B) (D:=D) n rfl hlen (fun i s=> s=coll i f) (fun t=> t=coll n f) (s:=[]) (by simp[coll]) (by
  rintro i s hi rfl;left;exact⟨_,hB i _ hi (coll_len h1 i),(coll_succ i f).symm⟩) (by
  rintro s rfl;exact⟨_,hD _ _,rfl⟩)
 rw[g1,g2]
theorem loopW_coll{β:Type}{n:Nat}(f:Nat→List β){S:List β×Int→Option ((List β×Int)⊕List β)}(h1:∀i,(f i).length≤1)
  (hB:∀ (i:Nat) (s:List β),i < n→s.length≤i→S (s,(i:Int))=some (.inl (s++f i,(i:Int)+1))) (hD:∀s:List β,S (s,(n:Int))=some (.inr s)):zD S ([],0)=some (coll n f):=by
 obtain⟨t,g1,g2⟩:=zV (S:=S) (fun s=>(n - s.2).toNat) (fun s=>∃i:Nat,s.2=i∧i≤n∧s.1=coll i f) (fun t=> t=coll n f) (s:=([],0)) ⟨0,rfl,yF _,by simp[coll]⟩ (by
  rintro⟨s,j⟩ ⟨i,p1,p2,p3⟩;simp only at p1 p3;subst p1; subst p3;by_cases hi:i < n
  ·left
   refine⟨_,hB i _ hi (coll_len h1 i),⟨i+1,by simp,hi,(coll_succ i f).symm⟩,by simp only; omega⟩
  ·right
   have:i=n:=by omega
   subst this;exact⟨_,hD _,rfl⟩)
 rw[g1,g2]
def dm(x:qc)(n:Nat):Nat:=(x.Complex.Dims.getD n 0).toNat
def lv(x:qc)(n j:Nat):Int:=(x.Levels.getD n []).getD j 0
def mt(x:qc)(n:Nat):List (List Int):=x.Complex.Maps.getD (n - 1) []
theorem jG{x:qc}(h:zC x){n:Nat}(hn:n < x.Levels.length):x.Complex.Dims.getD n 0=(dm x n:Int)∧dm x n≤8∧(x.Levels.getD n []).length=dm x n:=by
 have h1:=h.vc.dim (n:=n) (by rw[←h.ll]; exact hn);have h2:=(h.lv n hn).1;unfold dm; omega
theorem F99_dm{x:qc}(hs:zp x)(h:zC x){n:Nat}(hn:n < x.Levels.length):F99 x.Complex (n:Int)=some (dm x n:Int):=by
 rw[F99_at hs.c.d (by rw[←h.ll]; exact hn),(jG h hn).1]
theorem F102_dm{x:qc}(hs:zp x)(h:zC x){n:Nat}(hn:n < x.Levels.length):F102 x.Complex (n:Int)=some (dm x n:Int):=by
 rw[F102_at hs.c.d (by rw[←h.ll]; exact hn),(jG h hn).1]
theorem F77_lv{x:qc}(h:zC x){n j:Nat}(hn:n < x.Levels.length)(hj:j < dm x n):F77 x (n:Int) (j:Int)=some (lv x n j):=
 F77_eq hn (by rw[(jG h hn).2.2]; exact hj)
def jE(x:qc)(n:Nat)(q:Int):List Int:=coll (dm x n) fun j=> if lv x n j≤q then [(j:Int)]else []
theorem one_len{c:Prop}[Decidable c]{β:Type}(a:β):(if c then [a]else []).length≤1:=by split <;> simp
theorem keptL_len{x:qc}{n:Nat}{q:Int}:(jE x n q).length≤dm x n:=coll_len (fun j=> one_len _) _
theorem mem_keptL{x:qc}{n:Nat}{q v:Int}:v∈jE x n q↔∃j,j < dm x n∧lv x n j≤q∧v=(j:Int):=by
 unfold jE;rw[mem_coll];constructor
 ·rintro⟨j,h1,h2⟩
  split at h2
  ·rename_i hq; exact⟨j,h1,hq,by simpa using h2⟩
  ·simp at h2
 ·rintro⟨j,h1,h2,rfl⟩
  exact⟨j,h1,by simp[h2]⟩
theorem F310_eq{x:qc}(hs:zp x)(h:zC x){n:Nat}(hn:n < x.Levels.length)(q:Int):F310 x (n:Int) q=some (jE x n q):=by
 unfold F310 jE;have hd:=(jG h hn).2.1;rw[loopW_coll (n:=dm x n) (fun j=> if lv x n j≤q then [(j:Int)]else []) (fun j=> one_len _) (by
  intro i s hi hl;unfold F310_1_S;simp only;rw[F99_dm hs h hn,ob,if_pos (by omega),F77_lv h hn hi,ob];by_cases c:lv x n i≤q
  ·rw[if_pos c,if_pos c,qN (by simp; omega) (by simp; omega),ob,qo (by omega) (by omega),ob]
  ·rw[if_neg c,if_neg c,qo (by omega) (by omega),ob,wB]) (by
  intro s;unfold F310_1_S;simp only;rw[F99_dm hs h hn,ob,if_neg (by omega)]),ob]
theorem F202_eq{x:qc}(hs:zp x)(h:zC x){n:Nat}(hn:n < x.Levels.length)(q:Int):F202 x (n:Int) q=some (jE x n q):=by
 unfold F202 jE;have hd:=jG h hn;have hll:=h.ll;rw[F86_eq hs.c.d,ob,jM,ob,if_pos (by simp; omega),qz hn [],ob,hd.2.2,
  forR_coll (n:=dm x n) (B:=F202_1_B q (x.Levels.getD n [])) (D:=F202_1_D q (x.Levels.getD n [])) (fun j=> if lv x n j≤q then [(j:Int)]else []) (by omega) (fun j=> one_len _) (by
  intro i s hi hl;unfold F202_1_B;rw[qz (by rw[hd.2.2]; exact hi) 0,ob]
  change (if lv x n i≤q then _ else _)=_
  by_cases c:lv x n i≤q
  ·rw[if_pos c,if_pos c,qN (by simp; omega) (by simp; omega),ob]
  ·rw[if_neg c,if_neg c,wB]) (by intro i s; rfl),ob]
theorem F202_out{x:qc}(hs:zp x)(h:zC x){n:Int}(hn:n < 0∨x.Levels.length≤n)(q:Int):F202 x n q=some []:=by
 unfold F202;have hll:=h.ll;rw[F86_eq hs.c.d,ob,jM,ob,if_neg (by simp; omega)]
theorem F203_eq{l:List Int}(hl:l.length≤1000000)(v:Int):F203 l v=some (decide (v∈l)):=by
 unfold F203 F211;have hlen:l.length < 4611686018427387904:=by omega
 obtain⟨t,g1,g2⟩:=qt (B:=F211_1_B l v) (D:=F211_1_D l v) l.length rfl hlen (fun i _=> v∉l.take i) (fun t=>(t= .inl ()∧v∉l)∨∃m:Nat,t= .inr (m:Int)∧v∈l) (s:=()) (by simp) (by
  rintro i _ hi hI;unfold F211_1_B;rw[qn hi,ob];by_cases q:v=l[i]
  ·right
   rw[if_pos q];exact⟨_,rfl,.inr ⟨i,rfl,by rw[q]; exact wF hi⟩⟩
  ·left
   rw[if_neg q];refine⟨(),rfl,fun hr=>?_⟩;rw[←vM hi]at hr;rcases vD.1 hr with h|h
   ·exact hI h
   ·exact q (by simpa using h)) (by
  rintro _ hI;rw[vQ]at hI;exact⟨_,rfl,.inl ⟨rfl,hI⟩⟩)
 rw[g1,ob];rcases g2 with⟨rfl,h⟩|⟨m,rfl,h⟩
 ·simp[h]
 ·simp[h]
def farL(x:qc)(n:Nat)(t:Int):List Int:=coll (if n=0 then 0 else dm x (n - 1)) fun j=> if t < lv x (n - 1) j then [(j:Int)]else []
theorem mem_farL{x:qc}{n:Nat}{t v:Int}(h:v∈farL x n t):n≠0∧∃j,j < dm x (n - 1)∧v=(j:Int):=by
 unfold farL at h;rw[mem_coll]at h;obtain⟨j,h1,h2⟩:=h;split at h1
 ·omega
 ·rename_i hn
  split at h2
  ·exact⟨hn,j,h1,by simpa using h2⟩
  ·simp at h2
theorem farL_len{x:qc}(h:zC x){n:Nat}(hn:n≤x.Levels.length){t:Int}:(farL x n t).length≤8:=by
 have h1:(farL x n t).length≤if n=0 then 0 else dm x (n - 1):=coll_len (fun j=> one_len _) _
 split at h1
 ·omega
 ·have:=jG h (n:=n - 1) (by omega)
  omega
theorem F184_1_eq{x:qc}(hs:zp x)(h:zC x){n:Nat}(hn:n≤x.Levels.length){r q:Int}(hr: -100≤r∧r≤100)(hq: -100≤q∧q≤100)(k:List Int):
  ∃d,(chk ((n:Int) - 1))=some ((n:Int) - 1)∧F102 x.Complex ((n:Int) - 1)=some d∧forR 0 d (F184_1_B x r (n:Int) q k d) (F184_1_D x r (n:Int) q k d) []=some (farL x n (q - r)):=by
 have hll:=hs.l;have hl:=h.ll;rcases Nat.eq_zero_or_pos n with h0|h0
 ·subst h0
  refine⟨0,qo (by omega) (by omega),?_,?_⟩
  ·unfold F102
   rw[F86_eq hs.c.d,ob,jM,ob,if_neg (by simp)]
  ·rfl
 ·obtain⟨m,rfl⟩:∃m,n=m+1:=⟨n - 1,by omega⟩
  have hm:m < x.Levels.length:=by omega
  have hd:=jG h hm;have e:((m+1:Nat):Int) - 1=(m:Int):=by omega
  refine⟨(dm x m:Int),qo (by omega) (by omega),by rw[e,F102_dm hs h hm],?_⟩;have hk:=keptL_len (x:=x) (n:=m) (q:=q - r);unfold farL;rw[if_neg (by omega),uM];refine forR_coll _ (by omega) (fun j=> one_len _) (fun i s hi hls=>?_) (by intro i s; rfl);unfold F184_1_B;rw[qo (by omega) (by omega),ob,qo (by omega) (by omega),ob,e,F202_eq hs h hm,ob,F203_eq (by omega),ob];by_cases c:q - r < lv x m i
  ·rw[if_neg (by simp only[decide_eq_true_eq]; rw[mem_keptL]; rintro⟨j, -,h2,h3⟩; have:i=j:=(by omega); subst this; omega),if_pos c,qN (by simp; omega) (by simp; omega),ob]
  ·rw[if_pos (by simp only[decide_eq_true_eq]; rw[mem_keptL]; exact⟨i,hi,by omega,rfl⟩),if_neg c,wB]
def rowF(x:qc)(n:Nat)(t:Int)(i:Int):List Int:=(farL x n t).map fun j=> nth (qJ (mt x n) i.toNat) j.toNat
def rowsF(x:qc)(n:Nat)(r q:Int):List (List Int):=(jE x n q).map (rowF x n (q - r))
theorem mt_ok{x:qc}(h:zC x){m:Nat}(hm:m+1 < x.Levels.length):m < x.Complex.Maps.length∧(mt x (m+1)).length=dm x (m+1)∧Rows x.Complex.Prime (dm x m) (mt x (m+1)):=by
 have hml:=h.vc.ml;have hl:=h.ll;have h1:m < x.Complex.Maps.length:=by omega
 have ht:=h.vc.tab m h1;have hd:=jG h hm;refine⟨h1,?_,fun r hr=>(ht.2 r hr).vec⟩;have h2:=ht.1;rw[hd.1]at h2;show(x.Complex.Maps.getD (m+1 - 1) []).length=_;rw[uM]; omega
theorem keep_get{x:qc}{n:Nat}{q:Int}{k:Nat}(hk:k < (jE x n q).length):∃i,i < dm x n∧(jE x n q)[k]=(i:Int):=by
 obtain⟨i,h1, -,h2⟩:=mem_keptL.1 (wF hk);exact⟨i,h1,h2⟩
theorem far_get{x:qc}{n:Nat}{t:Int}{k:Nat}(hk:k < (farL x n t).length):n≠0∧∃j,j < dm x (n - 1)∧(farL x n t)[k]=(j:Int):=mem_farL (wF hk)
theorem nth_map{α:Type}{l:List α}{g:α→Int}{j:Nat}(hj:j < l.length):nth (l.map g) j=g l[j]:=by simp[nth,hj]
theorem rowsF_ok{x:qc}(h:zC x){n:Nat}(hn:n≤x.Levels.length)(r q:Int)(hk:n=x.Levels.length→jE x n q=[]):Rows x.Complex.Prime (farL x n (q - r)).length (rowsF x n r q):=by
 intro row hrow;unfold rowsF at hrow;obtain⟨v,hv,rfl⟩:=vI.1 hrow;obtain⟨i,hi, -,rfl⟩:=mem_keptL.1 hv;have hn':n < x.Levels.length:=by
  rcases vC n x.Levels.length with c|c
  ·exact c
  ·rw[hk (by omega)]at hv; simp at hv
 refine⟨by simp[rowF],fun j hj=>?_⟩;unfold rowF;rw[nth_map hj];obtain⟨n0,c,hc,hce⟩:=far_get hj;rw[hce,vR,vR];obtain⟨m,rfl⟩:∃m,n=m+1:=⟨n - 1,by omega⟩;obtain⟨-,h2,h3⟩:=mt_ok h hn';have h4:=h3 _ (jw (show i < (mt x (m+1)).length by omega));exact h4.rng c (by simpa using hc)
theorem F280_2_eq{x:qc}(hs:zp x)(h:zC x){n:Nat}(hn:n < x.Levels.length){r q:Int}(hr: -100≤r∧r≤100)(hq: -100≤q∧q≤100)(d:Int)(m5:List (List Int))(hm5:n≠0→m5=mt x n)(o:List (List Int)){k:Nat}(hk:k < (jE x n q).length):
  zD (F280_2_S x r (n:Int) q d (jE x n q) m5 o (k:Int)) ([],0)=some (rowF x n (q - r) (jE x n q)[k]):=by
 obtain⟨i,hi,hie⟩:=keep_get hk;unfold rowF farL;rw[coll_map];refine loopW_coll _ (fun j=> by rw[yA]; exact one_len _) (fun j s hj hl=>?_) fun s=>?_
 ·split at hj
  ·omega
  ·rename_i n0
   obtain⟨m,rfl⟩:∃m,n=m+1:=⟨n - 1,by omega⟩;have hm:m < x.Levels.length:=by omega
   have hsl0:=hs.l;obtain⟨h1,h2,h3⟩:=mt_ok h hn;have hd:=jG h hm;rw[uM]at hj;have e:((m+1:Nat):Int) - 1=(m:Int):=by omega
   have hrow:=h3 _ (jw (show i < (mt x (m+1)).length by omega));have hrl:=hrow.len;have hm5':=hm5 n0;subst hm5';unfold F280_2_S;simp only;rw[if_pos (by omega),qo (by omega) (by omega),ob,e,F99_dm hs h hm,ob,if_pos (by omega),F77_lv h hm hj,ob,qo (by omega) (by omega),ob,uM];by_cases c:q - r < lv x m j
   ·rw[if_pos c,if_pos c,qn hk,ob,hie,qz (show i < (mt x (m+1)).length by omega) [],ob,qz (show j < ((mt x (m+1)).getD i []).length by unfold qJ at hrl; omega) 0,ob,qN (by simp; omega) (by simp; omega),ob,qo (by omega) (by omega),ob]
    rfl
   ·rw[if_neg c,if_neg c,qo (by omega) (by omega),ob,uN,wB]
 ·unfold F280_2_S
  simp only;by_cases n0:n=0
  ·subst n0
   rw[if_neg (by simp)]
  ·obtain⟨m,rfl⟩:∃m,n=m+1:=⟨n - 1,by omega⟩
   have hm:m < x.Levels.length:=by omega
   have hsl0:=hs.l;have e:((m+1:Nat):Int) - 1=(m:Int):=by omega
   rw[if_pos (by omega),qo (by omega) (by omega),ob,e,F99_dm hs h hm,ob,if_neg n0,uM,if_neg (by omega)]
theorem F280_1_eq{x:qc}(hs:zp x)(h:zC x){n:Nat}(hn:n < x.Levels.length){r q:Int}(hr: -100≤r∧r≤100)(hq: -100≤q∧q≤100)(d:Int)(m5:List (List Int))(hm5:n≠0→m5=mt x n):
  forR 0 ((jE x n q).length:Int) (F280_1_B x r (n:Int) q d (jE x n q) m5) (F280_1_D x r (n:Int) q d (jE x n q) m5) []=some (rowsF x n r q):=by
 have hk:=keptL_len (x:=x) (n:=n) (q:=q);have hd:=jG h hn;rw[zQ (rowF x n (q - r)) (by omega) (fun k hk s hsl=> by
  unfold F280_1_B;rw[F280_2_eq hs h hn hr hq d m5 hm5 s hk,ob,qN (by simp; simp at hsl; omega) (by simp; simp at hsl; omega),ob]) (by intro i s; rfl)]
 rfl
theorem F184_2_eq{x:qc}(hs:zp x)(h:zC x){n:Nat}(hn:n < x.Levels.length)(r q:Int):
  forR 0 ((jE x n q).length:Int) (F184_2_B x (n:Int) (jE x n q) (farL x n (q - r))) (F184_2_D x (n:Int) (jE x n q) (farL x n (q - r))) []=some (rowsF x n r q):=by
 have hk:=keptL_len (x:=x) (n:=n) (q:=q);have hd:=jG h hn;have hfl:=farL_len h (n:=n) (by omega) (t:=q - r);rw[zQ (rowF x n (q - r)) (by omega) (fun k hk s hsl=> by
  obtain⟨i,hi,hie⟩:=keep_get hk;unfold F184_2_B;rw[qn hk,ob,hie,zQ (l:=farL x n (q - r)) (fun j=> nth (qJ (mt x n) i) j.toNat) (by omega) (fun c hc s2 hs2=> by
   obtain⟨n0,j,hj,hje⟩:=far_get hc;obtain⟨m,rfl⟩:∃m,n=m+1:=⟨n - 1,by omega⟩;rw[uM]at hj;have hsl0:=hs.l;obtain⟨h1,h2,h3⟩:=mt_ok h hn;have hrl:=(h3 _ (jw (show i < (mt x (m+1)).length by omega))).len;have e:((m+1:Nat):Int) - 1=(m:Int):=by omega
   unfold F184_3_B;rw[qn hc,ob,qo (by omega) (by omega),ob,e,qz h1 [],ob,show x.Complex.Maps.getD m []=mt x (m+1) from rfl,qz (show i < (mt x (m+1)).length by omega) [],ob,hje,qz (show j < ((mt x (m+1)).getD i []).length by unfold qJ at hrl; omega) 0,ob,qN (by simp; simp at hs2; omega) (by simp; simp at hs2; omega),ob];rfl) (by intro i s; rfl),ob,vN,qN (by simp; simp at hsl; omega) (by simp; simp at hsl; omega),ob]
  rfl) (by intro i s; rfl)]
 rfl
def wideN(keep:List Int)(row:List Int)(w:Nat):Nat→List Int
 |0=> zv w
 |k+1=>(wideN keep row w k).set (keep.getD k 0).toNat (nth row k)
theorem wideN_len{keep row:List Int}{w:Nat}:∀k,(wideN keep row w k).length=w
 |0=> by simp[wideN,zv]
 |k+1=> by rw[wideN,yN]; exact wideN_len k
theorem nth_set{l:List Int}{i:Nat}{v:Int}(j:Nat):nth (l.set i v) j=if i=j∧j < l.length then v else nth l j:=by
 unfold nth;rw[List.getD_eq_getElem?_getD,List.getElem?_set,List.getD_eq_getElem?_getD];by_cases h1:i=j
 ·subst h1
  by_cases h2:i < l.length
  ·simp[h2]
  ·simp[h2]
 ·simp[h1]
theorem wideN_ok{p:Int}(hp:0 < p){keep row:List Int}{w m:Nat}(hr:qW p m row):∀k,k≤m→qW p w (wideN keep row w k)
 |0,_=> jS hp w
 |k+1,hk=>⟨wideN_len _,fun j hj=> by
   have ih:=(wideN_ok hp (keep:=keep) hr k (by omega)).rng j hj;rw[wideN,nth_set];split
   ·exact hr.rng k (by omega)
   ·exact ih⟩
def wides(keep:List Int)(w:Nat)(K:List (List Int)):List (List Int):=K.map fun row=> wideN keep row w keep.length
theorem wide_loop{keep row:List Int}{w:Nat}(hk:keep.length≤1000000)(hv:∀v∈keep,0≤v∧v < w){B:Int→List Int→Option (List Int⊕List Int)}{D:Int→List Int→Option (List Int)}
  (hB:∀ (k:Nat) (s:List Int),k < keep.length→s.length=w→B k s=some (.inl (s.set (keep.getD k 0).toNat (nth row k)))) (hD:∀i s,D i s=some s):forR 0 (keep.length:Int) B D (zv w)=some (wideN keep row w keep.length):=by
 have hlen:keep.length < 4611686018427387904:=by omega
 obtain⟨t,g1,g2⟩:=qt (B:=B) (D:=D) keep.length rfl hlen (fun i s=> s=wideN keep row w i) (fun t=> t=wideN keep row w keep.length) (s:=zv w) rfl (by
  rintro i s hi rfl;exact .inl ⟨_,hB i _ hi (wideN_len i),rfl⟩) (by
  rintro s rfl;exact⟨_,hD _ _,rfl⟩)
 rw[g1,g2]
theorem F311_eq{keep:List Int}{w:Nat}{K:List (List Int)}(hk:keep.length≤1000)(hw:w≤1000)(hK:K.length≤1000)(hv:∀v∈keep,0≤v∧v < w)(hr:∀r∈K,r.length=keep.length):F311 K keep (w:Int)=some (wides keep w K):=by
 unfold F311;rw[zQ (fun row=> wideN keep row w keep.length) (by omega) (fun k hk2 s hsl=> by
  have hrl:=hr _ (wF hk2);unfold F311_1_B;rw[mkL_ok w rfl (by omega) (by omega),ob]
  change (forR 0 (keep.length:Int) _ _ (zv w)).bind _=_
  rw[wide_loop (row:=K[k]) (by omega) hv (by
   intro j s2 hj hs2;have hvj:=hv _ (zx hj 0);obtain⟨c,hc⟩:∃c:Nat,keep.getD j 0=c:=⟨(keep.getD j 0).toNat,by omega⟩;unfold F311_2_B;rw[qz hj 0,ob,qn hk2,ob,qn (show j < K[k].length by omega),ob,hc,qn (show c < s2.length by omega),ob,zu (show c < s2.length by omega),ob,vR,zw (by omega)]) (by intro i s; rfl),ob,qN (by simp; simp at hsl; omega) (by simp; simp at hsl; omega),ob]) (by intro i s; rfl),ob]
 rfl
theorem F184_4_eq{x:qc}(hs:zp x)(h:zC x){n:Nat}(hn:n < x.Levels.length){keep far:List Int}{K:List (List Int)}(hk:keep.length≤1000)(hK:K.length≤1000)(hv:∀v∈keep,0≤v∧v < dm x n)(hr:∀r∈K,r.length=keep.length):
  forR 0 (K.length:Int) (F184_4_B x (n:Int) keep far K) (F184_4_D x (n:Int) keep far K) []=some (wides keep (dm x n) K):=by
 have hd:=jG h hn;rw[zQ (fun row=> wideN keep row (dm x n) keep.length) (by omega) (fun k hk2 s hsl=> by
  have hrl:=hr _ (wF hk2);unfold F184_4_B;rw[qn hk2,ob,F102_dm hs h hn,ob,mkL_ok (dm x n) rfl (by omega) (by omega),ob]
  change (forR 0 (keep.length:Int) _ _ (zv (dm x n))).bind _=_
  rw[wide_loop (row:=K[k]) (by omega) hv (by
   intro j s2 hj hs2;have hvj:=hv _ (zx hj 0);obtain⟨c,hc⟩:∃c:Nat,keep.getD j 0=c:=⟨(keep.getD j 0).toNat,by omega⟩;unfold F184_5_B;rw[qz hj 0,ob,qn (show j < K[k].length by omega),ob,hc,qn (show c < s2.length by omega),ob,zu (show c < s2.length by omega),ob,vR,zw (by omega)]) (by intro i s; rfl),ob,qN (by simp; simp at hsl; omega) (by simp; simp at hsl; omega),ob]) (by intro i s; rfl)]
 rfl
theorem F76_at{x:qc}(hs:zp x)(h:zC x){n:Nat}(hn:n < x.Levels.length):∃m,F76 x.Complex (n:Int)=some m∧(n≠0→m=mt x n):=by
 have hl:=h.ll;have hd:=jG h hn;rcases Nat.eq_zero_or_pos n with h0|h0
 ·subst h0
  exact⟨_,F76_0 hs.c.d (by omega) hd.1 (by omega),fun h=> absurd rfl h⟩
 ·obtain⟨m,rfl⟩:∃m,n=m+1:=⟨n - 1,by omega⟩
  exact⟨_,F76_eq hs.c.d (by omega) (by have:=h.vc.ml; omega),fun _=> rfl⟩
theorem near_same{x:qc}(hs:zp x)(h:zC x){n:Nat}(hn:n < x.Levels.length){r q:Int}(hr: -100≤r∧r≤100)(hq: -100≤q∧q≤100):
  ∃N,F184 x r (n:Int) q=some N∧F280 x r (n:Int) q=some N∧Red x.Complex.Prime (dm x n) N:=by
 have hp:=h.vc.p;have hp1:1 < x.Complex.Prime:=by have:=hp.range; omega
 have hd:=jG h hn;have hk:=keptL_len (x:=x) (n:=n) (q:=q);have hf:=farL_len h (n:=n) (by omega) (t:=q - r);obtain⟨d,c1,c2,c3⟩:=F184_1_eq hs h (n:=n) (by omega) hr hq (jE x n q);obtain⟨m,m1,m2⟩:=F76_at hs h hn;have hrl:(rowsF x n r q).length=(jE x n q).length:=by simp[rowsF]
 have hrows:=rowsF_ok h (n:=n) (by omega) r q (fun e=> by omega);obtain⟨K,k1,k2,k3⟩:=kernel_same hp hrows (by omega) (by omega);rw[hrl]at k1 k3;have hKl:=zF k3;have hv:∀v∈jE x n q,0≤v∧v < dm x n:=fun v hv=> by
  obtain⟨j,h1, -,rfl⟩:=mem_keptL.1 hv;omega
 have hKr:∀r∈K,r.length=(jE x n q).length:=fun r hr=>(k3.ok r hr).len;have hw:Rows x.Complex.Prime (dm x n) (wides (jE x n q) (dm x n) K):=fun r hr=> by
  obtain⟨row,hrow,rfl⟩:=vI.1 hr;exact wideN_ok (by omega) (k3.ok row hrow) _ (wG _)
 have hwl:(wides (jE x n q) (dm x n) K).length=K.length:=by simp[wides]
 obtain⟨N,n1,n2,n3⟩:=zR hp hw (by omega) (by omega);refine⟨N,?_,?_,n3.red⟩
 ·unfold F184
  rw[F202_eq hs h hn,ob,c1,ob,c2,ob,c3,ob,F184_2_eq hs h hn,ob,k2,ob,F184_4_eq hs h hn (by omega) (by omega) hv hKr,ob,n2,ob]
 ·unfold F280
  rw[F99_dm hs h hn,ob,F310_eq hs h hn,ob,m1,ob,F280_1_eq hs h hn hr hq _ m m2,ob,k1,ob,F311_eq (by omega) (by omega) (by omega) hv hKr,ob,n1,ob]
theorem near_top{x:qc}(hs:zp x)(h:zC x){r q:Int}(hr: -100≤r∧r≤100)(hq: -100≤q∧q≤100):F184 x r (x.Levels.length:Int) q=some []:=by
 have hp:=h.vc.p;have hp1:1 < x.Complex.Prime:=by have:=hp.range; omega
 obtain⟨d,c1,c2,c3⟩:=F184_1_eq hs h (n:=x.Levels.length) (wG _) hr hq [];obtain⟨K, -,k2,k3⟩:=kernel_same (p:=x.Complex.Prime) (w:=0) hp (rows:=[]) (fun r hr=>(nomatch hr)) (by omega) (by simp);have hK:K=[]:=by have:=zF k3; simpa using this
 subst hK;obtain⟨N, -,n2,n3⟩:=zR (p:=x.Complex.Prime) (w:=0) hp (rows:=[]) (fun r hr=>(nomatch hr)) (by omega) (by simp);have hN:N=[]:=vP (by have:=zF n3.red; omega);subst hN;unfold F184;rw[F202_out hs h (.inr (yG _)),ob,c1,ob,c2,ob,c3,ob]
 change ((some []).bind _)=_
 rw[ob,k2,ob]
 change ((some []).bind _)=_
 rw[ob,n2,ob]
def low(x:qc)(n:Nat)(N:List (List Int)):List (List Int):=N.map fun v=> lin x.Complex.Prime (dm x n) v (mt x (n+1))
theorem low_lin{x:qc}(h:zC x){n:Nat}(hn:n+1 < x.Levels.length){N:List (List Int)}(hN:Red x.Complex.Prime (dm x (n+1)) N){v:List Int}(hv:v∈N):LinOK x.Complex.Prime (dm x n) v (mt x (n+1)):=by
 obtain⟨h1,h2,h3⟩:=mt_ok h hn;have hd:=jG h (n:=n) (by omega);have hd1:=jG h hn;have hv':=hN.ok v hv;have hvl:=hv'.len;refine⟨h.vc.p.range,fun y hy=>?_,by omega,fun l hl=>⟨(h3 l hl).len,fun y hy=>?_⟩,by omega,by omega⟩
 ·obtain⟨k,hk,rfl⟩:=vL hy
  have:=hv'.rng k (by omega)
  rwa[zw hk]at this
 ·have hl':=h3 l hl
  have hll:=hl'.len;obtain⟨k,hk,rfl⟩:=vL hy;have:=hl'.rng k (by omega)
  rwa[zw hk]at this
theorem low_ok{x:qc}(h:zC x){n:Nat}(hn:n+1 < x.Levels.length){N:List (List Int)}(hN:Red x.Complex.Prime (dm x (n+1)) N):Rows x.Complex.Prime (dm x n) (low x n N):=by
 intro r hr;obtain⟨v,hv,rfl⟩:=vI.1 hr;have H:=low_lin h hn hN hv;have hok:=linN_ok H v.length (wG _);refine⟨hok.1,fun j hj=>?_⟩;have hj':j < (lin x.Complex.Prime (dm x n) v (mt x (n+1))).length:=by rw[lin_len H]; exact hj
 rw[zw hj'];exact hok.2 _ (wF hj')
theorem F281_eq{x:qc}(hs:zp x)(h:zC x){n:Nat}(hn:n+1 < x.Levels.length){N:List (List Int)}(hN:Red x.Complex.Prime (dm x (n+1)) N):F281 x ((n+1:Nat):Int) N=some (low x n N):=by
 have hl:=h.ll;have hNl:=zF hN;have hsl:=hs.l;have hd1:=jG h hn;unfold F281;rw[zQ (fun v=> lin x.Complex.Prime (dm x n) v (mt x (n+1))) (by omega) (fun k hk s hsl2=> by
  unfold F281_1_B;have e:F76 x.Complex ((n+1:Nat):Int)=some (mt x (n+1)):=F76_eq hs.c.d (by omega) (by have:=h.vc.ml; omega);rw[e,ob,qn hk,ob,qo (by omega) (by omega),ob,show((n+1:Nat):Int) - 1=(n:Int) by omega,F99_dm hs h (by omega),ob,F80_eq (low_lin h hn hN (wF hk)) rfl,ob,qN (by simp; simp at hsl2; omega) (by simp; simp at hsl2; omega),ob]) (by intro i s; rfl),ob]
 rfl
theorem F185_1_eq{x:qc}(hs:zp x)(h:zC x){n:Nat}(hn:n+1 < x.Levels.length){N A:List (List Int)}(hN:Red x.Complex.Prime (dm x (n+1)) N)(hA:A.length≤1000):
  forR 0 (N.length:Int) (F185_1_B x (n:Int) N) (F185_1_D x (n:Int) N) A=some (A++low x n N):=by
 have hl:=h.ll;have hNl:=zF hN;have hsl:=hs.l;have hd1:=jG h hn;rw[zQ (fun v=> lin x.Complex.Prime (dm x n) v (mt x (n+1))) (by omega) (fun k hk s hsl2=> by
  have hd:=jG h (n:=n) (by omega);unfold F185_1_B F91;rw[qn hk,ob,qo (by omega) (by omega),ob,if_neg (by omega),F86_eq hs.c.d,ob,if_neg (by omega),qo (by omega) (by omega),ob,show((n:Int)+1 - 1)=(n:Int) by omega,qz (show n < x.Complex.Dims.length by omega) 0,ob,qz (show n < x.Complex.Maps.length by have:=h.vc.ml; omega) [],ob,hd.1]
  change (((F119 _ _ _ (mt x (n+1))).bind _).bind _)=_
  rw[F119_eq (low_lin h hn hN (wF hk)) rfl,ob,ob,qN (by simp; omega) (by simp; omega),ob]) (by intro i s; rfl)]
 rfl
theorem bottom_same{x:qc}(hs:zp x)(h:zC x){n:Nat}(hn:n < x.Levels.length){r q:Int}(hr: -40≤r∧r≤40)(hq: -40≤q∧q≤40):
  ∃N,F185 x r (n:Int) q=some N∧F279 x r (n:Int) q=some N∧Red x.Complex.Prime (dm x n) N:=by
 have hp:=h.vc.p;have hd:=jG h hn;have hsl:=hs.l;obtain⟨A,a1,a2,a3⟩:=near_same hs h hn (r:=r - 1) (q:=q - 1) (by omega) (by omega);have hAl:=zF a3;unfold F185 F279;rw[qo (by omega) (by omega),ob,ob,qo (by omega) (by omega),ob,ob,a1,a2,ob,ob,qN (by simp; omega) (by simp; omega),ob,qo (by omega) (by omega),ob,ob,qo (by omega) (by omega),ob,qo (by omega) (by omega),ob,vN];by_cases c:n+1 < x.Levels.length
 ·obtain⟨B,b1,b2,b3⟩:=near_same hs h c (r:=r - 1) (q:=q+r - 1) (by omega) (by omega)
  have hBl:=zF b3;have hd1:=jG h c;have e:(n:Int)+1=((n+1:Nat):Int):=by omega
  have hrows:Rows x.Complex.Prime (dm x n) (A++low x n B):=fun v hv=> by
   rcases vD.1 hv with hv|hv
   ·exact a3.ok v hv
   ·exact low_ok h c b3 v hv
  have hll:(low x n B).length=B.length:=by simp[low]
  obtain⟨N,n1,n2,n3⟩:=zR hp hrows (by omega) (by rw[wJ]; omega);refine⟨N,?_,?_,n3.red⟩
  ·rw[e,b1,ob,F185_1_eq hs h c b3 (by omega),ob,n2,ob]
  ·rw[if_pos (by omega),ob,qo (by omega) (by omega),ob,e,b2,ob,F281_eq hs h c b3,ob,qN (by omega) (by omega),ob,n1,ob]
 ·have hnl:(n:Int)+1=(x.Levels.length:Int):=by omega
  obtain⟨N,n1,n2,n3⟩:=zR hp a3.ok (by omega) (by omega);rw[if_neg (by omega),hnl,near_top hs h (by omega) (by omega),ob];refine⟨N,?_,?_,n3.red⟩
  ·change ((some A).bind _)=_
   rw[ob,n2,ob]
  ·rw[n1,ob]
theorem page_code{x:qc}(hs:zp x)(r n q:Int):∃c,F166 x r n q=some c∧F247 x r n q=some c∧(c=0→zC x∧(0≤r∧r≤8)∧(0≤n∧n < x.Levels.length)∧0≤q∧q≤5):=by
 obtain⟨b,d1,d2,d3⟩:=(F38_tells hs).same (F41_tells hs);have hsl:=hs.l;have hsd:=hs.c.d;unfold F166 F247;rw[d1,d2,ob,ob];cases b with
 |false=> exact⟨1,if_neg wC,if_neg wC,fun h=> by cases h⟩
 |true=>
  have hv:=d3.1 rfl;have hll:=hv.ll;rw[if_pos rfl,if_pos rfl,jM,xg,ob,ob];by_cases c1:0≤r∧r≤8
  case neg=> exact⟨2,by rw[if_neg (by simpa using c1)],by rw[if_neg (by simpa using c1)],fun h=> by cases h⟩
  rw[if_pos (by simpa using c1),if_pos (by simpa using c1),F86_eq hsd,ob,qo (by omega) (by omega),ob,jM,xg,ob,ob,hll];by_cases c2:0≤n∧n≤(x.Complex.Dims.length:Int) - 1
  case neg=> exact⟨2,by rw[if_neg (by simpa using c2)],by rw[if_neg (by simpa using c2)],fun h=> by cases h⟩
  rw[if_pos (by simpa using c2),if_pos (by simpa using c2),jM,xg,ob];by_cases c3:0≤q∧q≤5
  case neg=> exact⟨2,by rw[if_neg (by simpa using c3)],by rw[if_neg (by simpa using c3)],fun h=> by cases h⟩
  exact⟨0,by rw[if_pos (by simpa using c3)],by rw[if_pos (by simpa using c3)],fun _=>⟨hv,c1,by omega,c3⟩⟩
theorem rest_take{p:Int}{R:List (List Int)}{v:List Int}{i:Nat}(hi:i < R.length):rest p (R.take (i+1)) v=subv p (rest p (R.take i) v) R[i] (nth (rest p (R.take i) v) (ld R[i])):=by
 rw[←vM hi];unfold rest;rw[List.foldl_append];rfl
theorem F205_eq{p:Int}{w:Nat}(hp:IsP p){R:List (List Int)}(hR:Red p w R){v:List Int}(hv:qW p w v)(hw:w≤1000):F205 p v R=some (rest p R v):=by
 have hp0:0 < p:=by have:=hp.range; omega
 have hRl:=zF hR;unfold F205;rw[F96_eq (by rw[hv.len]; omega),ob,F101_eq hR hw,ob];obtain⟨t,g1,g2⟩:=qt (B:=F205_1_B p R (R.map fun r=>(ld r:Int))) (D:=F205_1_D) (hi:=((R.map fun r=>(ld r:Int)).length:Int)) R.length (by simp) (by omega) (fun i s=> s=rest p (R.take i) v) (fun t=> t=rest p R v) (s:=v) rfl (by
  rintro i s hi rfl;left;have hri:=hR.ok _ (wF hi);have hro:=hR.one _ (wF hi);have hok:=jT hp0 (R:=R.take i) (fun r hr=> hR.ok r (vB hr)) hv;have hrng:=hok.rng _ hro.1;refine⟨_,?_,(rest_take hi).symm⟩;unfold F205_1_B;rw[qn (by simpa using hi),ob,List.getElem_map,qn hi,ob,zN (by rw[hok.len]; exact hro.1),ob,F139_eq hp.range hrng hok hri (by omega),ob]) (by
  rintro s rfl;exact⟨_,rfl,by rw[vQ]⟩)
 rw[g1,g2]
theorem rest_rows{p:Int}{w:Nat}(hp0:0 < p){R N:List (List Int)}(hR:Rows p w R)(hN:Rows p w N):Rows p w (N.map (rest p R)):=fun r hr=> by
 obtain⟨v,hv,rfl⟩:=vI.1 hr;exact jT hp0 hR (hN v hv)
theorem F204_eq{p:Int}{w:Nat}(hp:IsP p){R N:List (List Int)}(hR:Red p w R)(hN:Rows p w N)(hl:N.length≤1000)(hw:w≤1000):∃E,F204 p N R=some E∧F131 p (N.map (rest p R))=some E∧jK p w (N.map (rest p R)) E:=by
 have hp0:0 < p:=by have:=hp.range; omega
 obtain⟨E,e1,e2,e3⟩:=zR hp (rest_rows hp0 hR.ok hN) (by omega) (by rw[yA]; omega);refine⟨E,?_,e1,e3⟩;unfold F204;rw[zQ (rest p R) (by omega) (fun k hk s hsl=> by
  have hv:=hN _ (wF hk);unfold F204_1_B;rw[qn hk,ob,F205_eq hp hR hv hw,ob,qN (by simp; simp at hsl; omega) (by simp; simp at hsl; omega),ob]) (by intro i s; rfl),ob,vN,e2,ob]
theorem basis_eq{x:qc}(hs:zp x)(h:zC x){n:Nat}(hn:n < x.Levels.length){r q:Int}(hr: -40≤r∧r≤40)(hq: -40≤q∧q≤40){N B:List (List Int)}(hN:F184 x r (n:Int) q=some N)(hB:F185 x r (n:Int) q=some B)(nN:Red x.Complex.Prime (dm x n) N)(nB:Red x.Complex.Prime (dm x n) B):
  ∃E,F187 x r (n:Int) q=some E∧F131 x.Complex.Prime (N.map (rest x.Complex.Prime B))=some E∧jK x.Complex.Prime (dm x n) (N.map (rest x.Complex.Prime B)) E:=by
 have hd:=jG h hn;have hNl:=zF nN;obtain⟨E,e1,e2,e3⟩:=F204_eq h.vc.p nB nN.ok (by omega) (by omega);refine⟨E,?_,e2,e3⟩;unfold F187;rw[hN,hB,ob,ob,e1,ob]
theorem F188_eq{p:Int}{w:Nat}(hp:IsP p){T B:List (List Int)}(hT:Red p w T)(hB:Red p w B){v:List Int}(hv:qW p w v)(hw:w≤1000):F188 p v T B=some (leadsOf T (rest p B v)):=by
 have hp0:0 < p:=by have:=hp.range; omega
 have hTl:=zF hT;have hok:=jT hp0 hB.ok hv;unfold F188;rw[F205_eq hp hB hv hw,ob,F101_eq hT hw,ob,zQ (l:=T.map fun r=>(ld r:Int)) (fun i=> nth (rest p B v) i.toNat) (by simp; omega) (fun k hk s hsl=> by
  have hk':k < T.length:=by simpa using hk
  have hone:=hT.one _ (wF hk');unfold F188_1_B;rw[qn hk,ob,List.getElem_map,zN (by rw[hok.len]; exact hone.1),ob,qN (by simp; simp at hsl; omega) (by simp; simp at hsl; omega),ob,vR]) (by intro i s; rfl),ob,vN]
 unfold leadsOf;rw[List.map_map];rfl
theorem idx_loopW{α:Type}{l:List α}(g:Nat→α→α){S:List α×Int→Option ((List α×Int)⊕List α)}
  (hS:∀ (i:Nat) (hi:i < l.length) (s:List α),s.length=l.length→(∀k,s[k]? =if k < i then(l[k]?).map (g k)else l[k]?)→S (s,(i:Int))=some (.inl (s.set i (g i l[i]),(i:Int)+1))) (hE:∀s:List α,s.length=l.length→S (s,(l.length:Int))=some (.inr s)):zD S (l,0)=some (l.mapIdx g):=by
 obtain⟨t,h1,h2⟩:=zV (S:=S) (fun s=>(l.length - s.2).toNat) (fun s=>∃i:Nat,s.2=i∧i≤l.length∧s.1.length=l.length∧∀k,s.1[k]? =if k < i then(l[k]?).map (g k)else l[k]?) (fun t=> t=l.mapIdx g) (s:=(l,0)) ⟨0,rfl,yF _,rfl,fun k=> by simp⟩ (by
  rintro⟨s,j⟩ ⟨i,p0,p00,p1,p2⟩;simp only at p0 p1 p2;subst p0;by_cases hi:i < l.length
  ·left
   refine⟨_,hS i hi s p1 p2,⟨i+1,by simp,hi,by simp only[yN]; exact p1,fun k=>?_⟩,by simp only; omega⟩;simp only;rw[List.getElem?_set];by_cases e:i=k
   ·subst e; rw[if_pos rfl,if_pos (by omega),if_pos (by omega)]; simp[hi]
   ·rw[if_neg e,p2 k]
    by_cases q:k < i
    ·rw[if_pos q,if_pos (by omega)]
    ·rw[if_neg q,if_neg (by omega)]
  ·right
   have:i=l.length:=by omega
   subst this;refine⟨s,hE s p1,?_⟩;apply List.ext_getElem?;intro k;rw[p2 k,List.getElem?_mapIdx];by_cases q:k < l.length
   ·rw[if_pos q]
   ·rw[if_neg q,List.getElem?_eq_none (by omega)]; rfl)
 rw[h1,h2]
theorem F330_2_eq{p k:Int}{w:Nat}(hp:2≤p∧p≤7)(hk:0≤k∧k < p){r:List Int}(hr:qW p w r){R:List (List Int)}{i:Nat}(hi:i < R.length)(ho:qW p w R[i])(hw:w≤1048576):zD (xK p R (i:Int) k) (r,0)=some (subv p r R[i] k):=by
 have hl:=hr.len;have hol:=ho.len;rw[idx_loopW (l:=r) (S:=xK p R (i:Int) k) (fun j x=>(x - k*nth R[i] j)% p) (fun j hj s hs hk'=>?_) (fun s hs=>?_)]
 ·congr 1
  have hsl:(subv p r R[i] k).length=w:=by simp[subv,hl,hol]
  apply yV (by simp[hl,hsl]);intro j h1 h2;have hj:j < w:=by omega
  have:=jr (p:=p) (k:=k) hl hol hj;rw[zw h2,zw (show j < r.length by omega)]at this;rw[this]; simp
 ·have h1:s[j]? =r[j]?:=by rw[hk' j,if_neg (Nat.lt_irrefl _)]
  have h2:s[j]'(by omega)=r[j]:=by
   have:=h1;rw[List.getElem?_eq_getElem (by omega),List.getElem?_eq_getElem hj]at this;exact wA this
  have a1:=hr.rng j (by omega);rw[zw hj]at a1;have a2:=ho.rng j (by omega);have hm:0≤k*nth R[i] j∧k*nth R[i] j≤49:=by
   refine⟨Int.mul_nonneg (by omega) a2.1,?_⟩;have:=Int.mul_le_mul (show k≤7 by omega) (show nth R[i] j≤7 by omega) a2.1 (by decide);omega
  unfold xK;simp only;rw[if_pos (by omega),qn (show j < s.length by omega),ob,h2,qn hi,ob,zN (by omega),ob,qo (by omega) (by omega),ob,qo (by omega) (by omega),ob,F127_eq hp,ob,zu (by omega),ob,qo (by omega) (by omega),ob]
 ·unfold xK
  simp only;rw[if_neg (by omega)]
theorem F330_eq{p:Int}{w:Nat}(hp:IsP p){R:List (List Int)}(hR:Red p w R){v:List Int}(hv:qW p w v)(hw:w≤1000):F330 p v R=some (rest p R v):=by
 have hp0:0 < p:=by have:=hp.range; omega
 have hRl:=zF hR;unfold F330;rw[F94_eq (by rw[hv.len]; omega),ob];obtain⟨t,g1,g2⟩:=qt (B:=F330_1_B p R) (D:=F330_1_D p R) R.length rfl (by omega) (fun i s=> s=rest p (R.take i) v) (fun t=> t=rest p R v) (s:=v) rfl (by
  rintro i s hi rfl;left;have hri:=hR.ok _ (wF hi);have hro:=hR.one _ (wF hi);have hok:=jT hp0 (R:=R.take i) (fun r hr=> hR.ok r (vB hr)) hv;have hrng:=hok.rng _ hro.1;refine⟨_,?_,(rest_take hi).symm⟩;unfold F330_1_B;rw[qn hi,ob,F81_ld (by rw[hri.len]; omega),if_pos (by rw[hri.len]; exact hro.1),ob,zN (by rw[hok.len]; exact hro.1),ob];by_cases c:nth (rest p (R.take i) v) (ld R[i])=0
  ·rw[if_pos c,c,sub_zero hp0 hok hri.len]
  ·rw[if_neg c,F330_2_eq hp.range hrng hok hi hri (by omega),ob]) (by
  rintro s rfl;exact⟨_,rfl,by rw[vQ]⟩)
 rw[g1,ob,g2]
theorem basis_same{x:qc}(hs:zp x)(h:zC x){n:Nat}(hn:n < x.Levels.length){r q:Int}(hr: -40≤r∧r≤40)(hq: -40≤q∧q≤40):
  ∃E,F187 x r (n:Int) q=some E∧F329 x r (n:Int) q=some E∧Red x.Complex.Prime (dm x n) E:=by
 have hp:=h.vc.p;have hd:=jG h hn;obtain⟨N,n1,n2,n3⟩:=near_same hs h hn (r:=r) (q:=q) (by omega) (by omega);obtain⟨B,b1,b2,b3⟩:=bottom_same hs h hn hr hq;have hNl:=zF n3;obtain⟨E,e1,e2,e3⟩:=basis_eq hs h hn hr hq n1 b1 n3 b3;refine⟨E,e1,?_,e3.red⟩;unfold F329;rw[n2,ob,b2,ob,zQ (rest x.Complex.Prime B) (by omega) (fun k hk s hsl=> by
  have hv:=n3.ok _ (wF hk);unfold F329_1_B;rw[qn hk,ob,F330_eq hp b3 hv (by omega),ob,qN (by simp; simp at hsl; omega) (by simp; simp at hsl; omega),ob]) (by intro i s; rfl),ob,vN,e2,ob]
def qL(o:Option (Unit⊕(Unit⊕Bool)))(P:Prop):Prop:=∃b:Bool,o=some (if b=true then .inl ()else .inr (.inr false))∧(b=true↔P)
theorem qL.iff{o:Option (Unit⊕(Unit⊕Bool))}{P Q:Prop}(h:qL o P)(e:P↔Q):qL o Q:=by
 obtain⟨b,h1,h2⟩:=h; exact⟨b,h1,h2.trans e⟩
def WTells(o:Option (Int⊕(Unit⊕Bool)))(i:Int)(P:Prop):Prop:=∃b:Bool,o=some (if b=true then .inl (i+1)else .inr (.inr false))∧(b=true↔P)
theorem WTells.iff{o:Option (Int⊕(Unit⊕Bool))}{i:Int}{P Q:Prop}(h:WTells o i P)(e:P↔Q):WTells o i Q:=by
 obtain⟨b,h1,h2⟩:=h; exact⟨b,h1,h2.trans e⟩
def dc(x:qh)(n:Nat):Nat:=(x.Dims.getD n 0).toNat
structure TabN (p:Int) (c w:Nat) (m:List (List Int)):Prop where
 len:m.length=c
 rows:Rows p w m
theorem TabN.of{p:Int}{c w:Nat}{m:List (List Int)}(T:TableOK p (c:Int) (w:Int) m):TabN p c w m:=⟨by have:=T.1; omega,fun r hr=>(T.2 r hr).vec⟩
def hN(c:zk)(n:Nat):Nat:=(c.Up.getD n []).length
def bkF(x:qh)(c:zk)(n:Nat)(v:List Int):List Int:=lin x.Prime (dc x (n+1)) v (c.Back.getD n [])
def Zr(l:List Int):Prop:=∀y∈l,y=0
structure PT (s0 ms:T3s) (φ:Nat→Nat→Nat→Nat×Nat×Nat) (val:Nat→Nat→Nat→Int) (D:Nat→Nat→Nat→Prop) (s:T3s):Prop where
 shp:Shp s s0
 at':∀k i j,InT ms k i j→(D k i j→zS s (φ k i j).1 (φ k i j).2.1 (φ k i j).2.2=val k i j)∧(¬D k i j→zS s (φ k i j).1 (φ k i j).2.1 (φ k i j).2.2=zS s0 (φ k i j).1 (φ k i j).2.1 (φ k i j).2.2)
 out:∀a b c,InT s0 a b c→(∀k i j,InT ms k i j→φ k i j≠(a,b,c))→zS s a b c=zS s0 a b c
theorem PT.imp{s0 ms:T3s}{φ:Nat→Nat→Nat→Nat×Nat×Nat}{val:Nat→Nat→Nat→Int}{D D':Nat→Nat→Nat→Prop}{s:T3s}(h:PT s0 ms φ val D s)(hd:∀k i j,InT ms k i j→(D k i j↔D' k i j)):PT s0 ms φ val D' s:=
 ⟨h.shp,fun k i j hin=>⟨fun d=>(h.at' k i j hin).1 ((hd k i j hin).2 d),fun d=>(h.at' k i j hin).2 fun x=> d ((hd k i j hin).1 x)⟩,h.out⟩
theorem PT.zero{s0 ms:T3s}{φ:Nat→Nat→Nat→Nat×Nat×Nat}{val:Nat→Nat→Nat→Int}:PT s0 ms φ val (fun _ _ _=> False) s0:=⟨.refl _,fun k i j _=>⟨fun x=> x.elim,fun _=> rfl⟩,fun _ _ _ _ _=> rfl⟩
theorem PT.step{s0 ms:T3s}{φ:Nat→Nat→Nat→Nat×Nat×Nat}{val:Nat→Nat→Nat→Int}(hi:∀k i j,InT ms k i j→InT s0 (φ k i j).1 (φ k i j).2.1 (φ k i j).2.2)(hinj:∀k i j k' i' j',InT ms k i j→InT ms k' i' j'→φ k i j=φ k' i' j'→k=k'∧i=i'∧j=j')
  {D D':Nat→Nat→Nat→Prop} {s:T3s} (h:PT s0 ms φ val D s) {k i j:Nat} (hin:InT ms k i j) (hd:∀k' i' j',D' k' i' j'↔D k' i' j'∨(k'=k∧i'=i∧j'=j)):PT s0 ms φ val D' (put3 s (φ k i j).1 (φ k i j).2.1 (φ k i j).2.2 (val k i j)):=by
 have hs:=h.shp.inT (hi k i j hin);refine⟨(put3_shp hs _).trans h.shp,fun k' i' j' hin'=>?_,fun a b c habc hne=>?_⟩
 ·rw[put3_at hs]
  by_cases e:k'=k∧i'=i∧j'=j
  ·obtain⟨rfl,rfl,rfl⟩:=e
   rw[if_pos ⟨rfl,rfl,rfl⟩];exact⟨fun _=> rfl,fun d=> absurd ((hd _ _ _).2 (.inr ⟨rfl,rfl,rfl⟩)) d⟩
  ·rw[if_neg fun q=> e (hinj k' i' j' k i j hin' hin (Prod.ext q.1 (Prod.ext q.2.1 q.2.2)))]
   refine⟨fun d=>(h.at' _ _ _ hin').1 (((hd _ _ _).1 d).resolve_right e),fun d=>(h.at' _ _ _ hin').2 fun x=> d ((hd _ _ _).2 (.inl x))⟩
 ·rw[put3_at hs,if_neg fun q=> hne k i j hin (Prod.ext q.1.symm (Prod.ext q.2.1.symm q.2.2.symm))]
  exact h.out a b c habc hne
structure Fam (x y:qh) (f:T3s):Prop where
 sx:xf x
 sy:xf y
 sf:SmallT f
 vx:xA x
 vy:xA y
 pp:y.Prime=x.Prime
 l:y.Dims.length=x.Dims.length
 fl:f.length=x.Dims.length
 t:∀n,n < x.Dims.length→TabN x.Prime (dc x n) (dc y n) (f.getD n [])
theorem Fam.inT{x y:qh}{f:T3s}(F:Fam x y f){k i j:Nat}:InT f k i j↔k < x.Dims.length∧i < dc x k∧j < dc y k:=by
 have hfl:=F.fl;unfold InT;constructor
 ·rintro⟨h1,h2,h3⟩
  have ht:=F.t k (by omega);have a:=ht.len;have b:=(ht.rows _ (zx h2 [])).len;exact⟨by omega,by omega,by omega⟩
 ·rintro⟨h1,h2,h3⟩
  have ht:=F.t k h1;have a:=ht.len;have h2':i < (f.getD k []).length:=by omega
  have b:=(ht.rows _ (zx h2' [])).len;exact⟨by omega,h2',by omega⟩
structure WideC (x:qh):Prop where
 p:IsP x.Prime
 dl:1≤x.Dims.length∧x.Dims.length≤100
 ml:x.Maps.length+1=x.Dims.length
 dims:∀d∈x.Dims,0≤d∧d≤100
 tab:∀k,k < x.Maps.length→xq x k
theorem WideC.dim{x:qh}(h:WideC x){n:Nat}(hn:n < x.Dims.length):0≤x.Dims.getD n 0∧x.Dims.getD n 0≤100:=h.dims _ (zx hn 0)
def turnF(x:qh)(c:zk)(ms:T3s)(n:Nat)(v:List Int):List Int:=if n+1 < x.Dims.length then lin x.Prime (dc x n) (bkF x c n v) (ms.getD n [])else zv (dc x n)
def itr(x:qh)(c:zk)(ms:T3s)(n:Nat)(v:List Int):Nat→List Int
 |0=> v
 |k+1=> turnF x c ms n (itr x c ms n v k)
structure Rds (x:qh) (c:zk) (ms:T3s) (S:Nat→Nat→Prop) (o:Nat):Prop where
 le:o≤9
 all:∀n i,S n i→n < x.Dims.length→i < dc x n→Zr (itr x c ms n (unitv (dc x n) i) o)
 least:∀k,k < o→∃n i,S n i∧n < x.Dims.length∧i < dc x n∧¬Zr (itr x c ms n (unitv (dc x n) i) k)
theorem Rds.imp{x:qh}{c:zk}{ms:T3s}{S S':Nat→Nat→Prop}{o:Nat}(h:Rds x c ms S o)(e:∀a b,a < x.Dims.length→b < dc x a→(S a b↔S' a b)):Rds x c ms S' o:=
 ⟨h.le,fun a b q ha hb=> h.all a b ((e a b ha hb).2 q) ha hb,fun k hk=> by
  obtain⟨a,b,q1,q2,q3,q4⟩:=h.least k hk;exact⟨a,b,(e a b q2 q3).1 q1,q2,q3,q4⟩⟩
def w2(l:List (List Int)):Nat:=(l.map List.length).sum
def w3(l:List (List (List Int))):Nat:=(l.map w2).sum
def w4(l:List (List (List (List Int)))):Nat:=(l.map w3).sum
structure Plc (fr:List Int) (d:Nat) (g:Nat→Int) (s:List Int):Prop where
 len:s.length=d
 at_:∀i,i < fr.length→nth s (fr.getD i 0).toNat=g i
 out:∀q,(∀i,i < fr.length→(fr.getD i 0).toNat≠q)→nth s q=0
structure Plcs (fr:List Int) (d:Nat):Prop where
 rng:∀y∈fr,0≤y∧y < (d:Int)
 dis:fr.Pairwise (·≠ ·)
theorem Plcs.at_{fr:List Int}{d:Nat}(P:Plcs fr d){i:Nat}(h:i < fr.length):0≤fr.getD i 0∧fr.getD i 0 < (d:Int):=P.rng _ (zx h 0)
theorem Plcs.ne{fr:List Int}{d:Nat}(P:Plcs fr d){i j:Nat}(hi:i < fr.length)(hj:j < fr.length)(h:i≠j):(fr.getD i 0).toNat≠(fr.getD j 0).toNat:=by
 have a:=P.at_ hi;have b:=P.at_ hj;have key:∀i j,(hi:i < fr.length)→(hj:j < fr.length)→i < j→fr.getD i 0≠fr.getD j 0:=fun i j hi hj h=> by
  have:=List.pairwise_iff_getElem.1 P.dis i j hi hj h;rw[List.getD_eq_getElem?_getD,List.getElem?_eq_getElem hi,List.getD_eq_getElem?_getD,List.getElem?_eq_getElem hj];exact this
 rcases Nat.lt_or_gt_of_ne h with c|c
 ·have:=key i j hi hj c; omega
 ·have:=key j i hj hi c; omega
theorem Plc.zero{fr:List Int}{d:Nat}{g:Nat→Int}(hg:∀i,i < fr.length→g i=0):Plc fr d g (zv d):=⟨by simp[zv],fun i hi=> by rw[jD,hg i hi],fun q _=> jD _ _⟩
theorem nth_setP{s:List Int}{i j:Nat}{a:Int}(h:i < s.length):nth (s.set i a) j=if i=j then a else nth s j:=by
 unfold nth;rw[List.getD_eq_getElem?_getD,List.getD_eq_getElem?_getD,List.getElem?_set];by_cases c:i=j
 ·subst c; rw[if_pos rfl,if_pos rfl,if_pos h]; rfl
 ·rw[if_neg c,if_neg c]
theorem Plc.set{fr:List Int}{d:Nat}{g:Nat→Int}{s:List Int}(P:Plcs fr d)(h:Plc fr d g s){i:Nat}(hi:i < fr.length){a:Int}{g':Nat→Int}(e1:g' i=a)(e2:∀k,k < fr.length→k≠i→g' k=g k):Plc fr d g' (s.set (fr.getD i 0).toNat a):=by
 have hr:=P.at_ hi;have hl:=h.len;refine⟨by rw[yN]; exact hl,fun k hk=>?_,fun q hq=>?_⟩
 ·rw[nth_setP (by omega)]
  by_cases c:k=i
  ·subst c; rw[if_pos rfl,e1]
  ·rw[if_neg (P.ne hi hk (yW c)),h.at_ k hk,e2 k hk c]
 ·rw[nth_setP (by omega),if_neg (hq i hi),h.out q hq]
theorem Plc.eq{fr:List Int}{d:Nat}{g:Nat→Int}{s t:List Int}(h:Plc fr d g s)(k:Plc fr d g t):s=t:=by
 have hl:=h.len;have kl:=k.len;refine yV (by omega) fun q h1 h2=>?_;rw[←zw h1,←zw h2];by_cases c:∃i,i < fr.length∧(fr.getD i 0).toNat=q
 ·obtain⟨i,hi,rfl⟩:=c
  rw[h.at_ i hi,k.at_ i hi]
 ·rw[h.out q fun i hi e=> c ⟨i,hi,e⟩,k.out q fun i hi e=> c ⟨i,hi,e⟩]
structure LongG (a:GDga):Prop where
 p:Long0 a.Prime
 s:Long0 a.Size
 d:LongA .i64 8 a.Degrees
 l:LongA .i64 8 a.Levels
 f:LongA .u8 64 a.Diff
 t:LongA .u8 512 a.Table
def By(n:Nat)(u:List Int):Prop:=∀k,k < n→0≤u.getD k 0∧u.getD k 0≤255
theorem by_of{n:Nat}{u:Ar .u8 n}(h:LongA .u8 n u):By n u.val:=fun k hk=> by
 have hl:=h.1;have:=h.2 _ (wF (show k < u.val.length by omega));rw[List.getD_eq_getElem?_getD,List.getElem?_eq_getElem (by omega)];exact Go.bounds_u8 this
theorem getD_ext8{n:Nat}{u v:List Int}(hu:u.length=n)(hv:v.length=n)(h:∀k,k < n→u.getD k 0=v.getD k 0):u=v:=by
 apply yV (by omega);intro i h1 h2;have:=h i (by omega)
 rwa[List.getD_eq_getElem?_getD,List.getD_eq_getElem?_getD,List.getElem?_eq_getElem h1,List.getElem?_eq_getElem h2]at this
theorem qD{n i:Nat}(h:i < n):ixI n (i:Int)=some i:=by
 unfold ixI; rw[if_pos (by omega),vR]
theorem F253_eq{a:Ar .i64 8}(h:a.val.length=8):F253 a=some a:=by
 obtain⟨t,h1,h2⟩:=qt (B:=F253_1_B a) (D:=F253_1_D a) (hi:=8) 8 rfl (by decide) (fun i o=>(0 < i→o.length=8)∧∀k,k < i→o.getD k 0=a.val.getD k 0) (fun t=> t=a.val) (s:=[]) ⟨fun h=> by omega,fun k hk=> by omega⟩ (fun i o hi ho=> by
   refine .inl ⟨arW 8 o i (a.val.getD i 0),?_,fun _=> arW_len,fun k hk=>?_⟩
   ·unfold F253_1_B; rw[qD hi,ob,ob]
   ·rw[arW_get (by omega)]
    by_cases hk2:k=i
    ·rw[if_pos hk2,hk2]
    ·rw[if_neg hk2]; exact ho.2 k (by omega)) (fun o ho=>⟨o,rfl,getD_ext8 (ho.1 (by omega)) h ho.2⟩)
 unfold F253;rw[h1,ob,h2]
theorem F291_eq{a:Ar .u8 8}(h:a.val.length=8):F291 a=some a:=by
 obtain⟨t,h1,h2⟩:=qt (B:=F291_1_B a) (D:=F291_1_D a) (hi:=8) 8 rfl (by decide) (fun i o=>(0 < i→o.length=8)∧∀k,k < i→o.getD k 0=a.val.getD k 0) (fun t=> t=a.val) (s:=[]) ⟨fun h=> by omega,fun k hk=> by omega⟩ (fun i o hi ho=> by
   refine .inl ⟨arW 8 o i (a.val.getD i 0),?_,fun _=> arW_len,fun k hk=>?_⟩
   ·unfold F291_1_B; rw[qD hi,ob,ob]
   ·rw[arW_get (by omega)]
    by_cases hk2:k=i
    ·rw[if_pos hk2,hk2]
    ·rw[if_neg hk2]; exact ho.2 k (by omega)) (fun o ho=>⟨o,rfl,getD_ext8 (ho.1 (by omega)) h ho.2⟩)
 unfold F291;rw[h1,ob,h2]
theorem arP_len{l:List Int}{o m n:Nat}(h:l.length=n)(ho:o+m≤n):(arP l o m).length=m:=by
 simp only[arP,wV,wQ]; omega
theorem F254_eq{a:Ar .u8 64}(h:a.val.length=64):F254 a=some a:=by
 obtain⟨t,h1,h2⟩:=qt (B:=F254_1_B a) (D:=F254_1_D a) (hi:=8) 8 rfl (by decide) (fun i o=>(0 < i→o.length=64)∧∀k,k < i*8→o.getD k 0=a.val.getD k 0) (fun t=> t=a.val) (s:=[]) ⟨fun h=> by omega,fun k hk=> by omega⟩ (fun i o hi ho=> by
   refine .inl ⟨arU 64 o (i*8) 8 (arP a.val (i*8) 8),?_,fun _=> arU_len,fun k hk=>?_⟩
   ·unfold F254_1_B; rw[qD hi,ob,F291_eq (a:=⟨arP a.val (i*8) 8⟩) (arP_len h (by omega)),ob,ob]
   ·rw[arU_get (by omega)]
    by_cases hk2:i*8≤k∧k < i*8+8
    ·rw[if_pos hk2,arP_get (by omega)]; congr 1; omega
    ·rw[if_neg hk2]; exact ho.2 k (by omega)) (fun o ho=>⟨o,rfl,getD_ext8 (ho.1 (by omega)) h ho.2⟩)
 unfold F254;rw[h1,ob,h2]
theorem F255_eq{a:Ar .u8 512}(h:a.val.length=512):F255 a=some a:=by
 obtain⟨t,h1,h2⟩:=qt (B:=F255_1_B a) (D:=F255_1_D a) (hi:=8) 8 rfl (by decide) (fun i o=>(0 < i→o.length=512)∧∀k,k < i*64→o.getD k 0=a.val.getD k 0) (fun t=> t=a.val) (s:=[]) ⟨fun h=> by omega,fun k hk=> by omega⟩ (fun i o hi ho=> by
   refine .inl ⟨arU 512 o (i*64) 64 (arP a.val (i*64) 64),?_,fun _=> arU_len,fun k hk=>?_⟩
   ·unfold F255_1_B; rw[qD hi,ob,F254_eq (a:=⟨arP a.val (i*64) 64⟩) (arP_len h (by omega)),ob,ob]
   ·rw[arU_get (by omega)]
    by_cases hk2:i*64≤k∧k < i*64+64
    ·rw[if_pos hk2,arP_get (by omega)]; congr 1; omega
    ·rw[if_neg hk2]; exact ho.2 k (by omega)) (fun o ho=>⟨o,rfl,getD_ext8 (ho.1 (by omega)) h ho.2⟩)
 unfold F255;rw[h1,ob,h2]
theorem F229_eq{a:GDga}(h:LongG a):F229 a=some a:=by
 unfold F229;rw[ob,ob,F253_eq h.d.1,ob,ob,F253_eq h.l.1,ob,ob,F254_eq h.f.1,ob,ob,F255_eq h.t.1,ob,ob]
def UTells(o:Option (Unit⊕Bool))(P:Prop):Prop:=(o=some (.inl ())∧P)∨(o=some (.inr false)∧¬P)
theorem qL.t{o:Option (Unit⊕(Unit⊕Bool))}{P:Prop}(h:o=some (.inl ()))(p:P):qL o P:=⟨true,h,by simp[p]⟩
theorem qL.f{o:Option (Unit⊕(Unit⊕Bool))}{P:Prop}(h:o=some (.inr (.inr false)))(p:¬P):qL o P:=⟨false,h,by simp[p]⟩
theorem zi{B:Int→Unit→Option (Unit⊕(Unit⊕Bool))}{D:Int→Unit→Option (Unit⊕Bool)}{hi:Int}(n:Nat)(hn:hi=n)(hs:n < 4611686018427387904)(C:Nat→Prop)
  (hb:∀i:Nat,i < n→(∀j,j < i→C j)→qL (B i ()) (C i)) (hd:D n ()=some (.inl ())):UTells (forR 0 hi B D ()) (∀i,i < n→C i):=by
 obtain⟨t,h1,h2⟩:=qt (B:=B) (D:=D) (hi:=hi) n hn hs (fun i _=>∀j,j < i→C j) (fun t=>(t= .inl ()∧∀i,i < n→C i)∨(t= .inr false∧¬∀i,i < n→C i)) (s:=()) (fun j hj=> by omega) (fun i s hi hI=> by
  obtain⟨b,h1,h2⟩:=hb i hi hI;cases b with
  |true=>
   refine .inl ⟨(),h1,fun j hj=>?_⟩;by_cases e:j=i
   ·rw[e]; exact h2.1 rfl
   ·exact hI j (by omega)
  |false=> exact .inr ⟨.inr false,h1,.inr ⟨rfl,fun q=> by have:=h2.2 (q i hi); cases this⟩⟩) (fun s hI=>⟨.inl (),hd,.inl ⟨rfl,hI⟩⟩)
 rcases h2 with⟨rfl,h2⟩|⟨rfl,h2⟩
 ·exact .inl ⟨h1,h2⟩
 ·exact .inr ⟨h1,h2⟩
theorem UTells.end_{o:Option (Unit⊕Bool)}{P:Prop}(h:UTells o P){f:(Unit⊕Bool)→Option Bool}(h1:f (.inl ())=some true)(h2:f (.inr false)=some false):qX (o.bind f) P:=by
 rcases h with⟨e,p⟩|⟨e,p⟩
 ·exact .of_true (by rw[e]; exact h1) p
 ·exact .of_false (by rw[e]; exact h2) p
theorem UTells.round{o:Option (Unit⊕Bool)}{P:Prop}(h:UTells o P){f:(Unit⊕Bool)→Option (Unit⊕(Unit⊕Bool))}(h1:f (.inl ())=some (.inl ()))(h2:f (.inr false)=some (.inr (.inr false))):qL (o.bind f) P:=by
 rcases h with⟨e,p⟩|⟨e,p⟩
 ·exact .t (by rw[e]; exact h1) p
 ·exact .f (by rw[e]; exact h2) p
theorem qX.and{o:Option Bool}{P Q:Prop}{f:Bool→Option (Unit⊕(Unit⊕Bool))}(h:qX o P)(h1:P→qL (f true) Q)(h2:f false=some (.inr (.inr false))):qL (o.bind f) (P∧Q):=by
 rcases h.case with⟨e,p⟩|⟨e,p⟩
 ·rw[e,ob]; exact(h1 p).iff ⟨fun q=>⟨p,q⟩,fun q=> q.2⟩
 ·rw[e,ob,h2]; exact .f rfl fun q=> p q.1
def SmE(p s:Int)(u:List Int):Prop:=∀k:Nat,k < 8→u.getD k 0 < p∧(s≤k→u.getD k 0=0)
theorem F195_tells{a:GDga}{u:List Int}(hu:By 8 u):qX (F195 a ⟨u⟩) (SmE a.Prime a.Size u):=by
 unfold F195;refine(zi 8 rfl (by decide) (fun k=> u.getD k 0 < a.Prime∧(a.Size≤k→u.getD k 0=0)) (fun k hk _=>?_) rfl).end_ rfl rfl;have:=hu k hk;unfold F195_1_B;simp only;rw[qD hk,ob,qo (by omega) (by omega),ob];by_cases c1:a.Prime≤u.getD k 0
 ·rw[if_pos c1]; exact .f rfl fun q=> by omega
 rw[if_neg c1];by_cases c2:a.Size≤k
 ·rw[if_pos c2]
  by_cases c3:u.getD k 0=0
  ·rw[if_pos c3]; exact .t rfl ⟨by omega,fun _=> c3⟩
  ·rw[if_neg c3]; exact .f rfl fun q=> c3 (q.2 c2)
 ·rw[if_neg c2]; exact .t rfl ⟨by omega,fun q=> absurd q c2⟩
theorem F181_tells{p s:Int}{u:List Int}(hu:By 8 u):qX (F181 p s ⟨u⟩) (SmE p s u):=by
 unfold F181;refine(zi 8 rfl (by decide) (fun k=> u.getD k 0 < p∧(s≤k→u.getD k 0=0)) (fun k hk _=>?_) rfl).end_ rfl rfl;have:=hu k hk;unfold F181_1_B;simp only;rw[qD hk,ob,qo (by omega) (by omega),ob];by_cases c1:p≤u.getD k 0
 ·rw[if_pos c1]; exact .f rfl fun q=> by omega
 rw[if_neg c1];by_cases c2:s≤k
 ·rw[if_pos c2]
  by_cases c3:u.getD k 0=0
  ·rw[if_pos c3]; exact .t rfl ⟨by omega,fun _=> c3⟩
  ·rw[if_neg c3]; exact .f rfl fun q=> c3 (q.2 c2)
 ·rw[if_neg c2]; exact .t rfl ⟨by omega,fun q=> absurd q c2⟩
def LiE(a:GDga)(n:Nat)(u:List Int)(d l:Int):Prop:=∀k:Nat,k < n→u.getD k 0≠0→a.Degrees.val.getD k 0=d∧a.Levels.val.getD k 0≤l
theorem F196_tells(a:GDga)(u:List Int)(d l:Int):qX (F196 a ⟨u⟩ d l) (LiE a 8 u d l):=by
 unfold F196;refine(zi 8 rfl (by decide) (fun k=> u.getD k 0≠0→a.Degrees.val.getD k 0=d∧a.Levels.val.getD k 0≤l) (fun k hk _=>?_) rfl).end_ rfl rfl;unfold F196_1_B;simp only;rw[qD hk,ob];by_cases c1:u.getD k 0=0
 ·rw[if_pos c1]; exact .t rfl fun q=> absurd c1 q
 rw[if_neg c1];by_cases c2:a.Degrees.val.getD k 0=d
 ·rw[if_pos c2]
  by_cases c3:l < a.Levels.val.getD k 0
  ·rw[if_pos c3]; exact .f rfl fun q=> by have:=(q c1).2; omega
  ·rw[if_neg c3]; exact .t rfl fun _=>⟨c2,by omega⟩
 ·rw[if_neg c2]; exact .f rfl fun q=> c2 (q c1).1
theorem F210_tells{a:GDga}{n:Nat}(hn:a.Size=n)(h8:n≤8)(u:List Int)(d l:Int):qX (F210 a ⟨u⟩ d l) (LiE a n u d l):=by
 unfold F210;refine(zi n hn (by omega) (fun k=> u.getD k 0≠0→a.Degrees.val.getD k 0=d∧a.Levels.val.getD k 0≤l) (fun k hk _=>?_) rfl).end_ rfl rfl;unfold F210_1_B;simp only;rw[qD (show k < 8 by omega),ob];by_cases c1:u.getD k 0=0
 ·rw[if_pos c1]; exact .t rfl fun q=> absurd c1 q
 rw[if_neg c1];by_cases c2:a.Degrees.val.getD k 0=d
 ·rw[if_pos c2]
  by_cases c3:l < a.Levels.val.getD k 0
  ·rw[if_pos c3]; exact .f rfl fun q=> by have:=(q c1).2; omega
  ·rw[if_neg c3]; exact .t rfl fun _=>⟨c2,by omega⟩
 ·rw[if_neg c2]; exact .f rfl fun q=> c2 (q c1).1
def EqE(u v:List Int):Prop:=∀k,k < 8→u.getD k 0=v.getD k 0
theorem okA_by{n:Nat}{u:List Int}(h:By n u):okA .u8 n u:=fun k hk=> by
 have:=h k hk;generalize u.getD k 0=x at this ⊢;simp[Go.Lit.wf,Go.IntKind.min,Go.IntKind.max,Go.IntKind.signed,Go.IntKind.bits];omega
theorem zy{u v:List Int}(hu:By 8 u)(hv:By 8 v):qX (arE .u8 8 u v) (EqE u v):=by
 unfold arE;rw[if_pos ⟨okA_by hu,okA_by hv⟩];exact⟨_,rfl,by unfold arQ EqE; rw[decide_eq_true_eq]⟩
theorem by_nil(n:Nat):By n []:=fun k _=> by simp
theorem xx{n o m:Nat}{l:List Int}(h:By n l)(ho:o+m≤n):By m (arP l o m):=fun k hk=> by rw[arP_get hk]; exact h _ (by omega)
def Df(a:GDga)(i:Nat):List Int:=arP a.Diff.val (i*8) 8
def Tb(a:GDga)(i j:Nat):List Int:=arP a.Table.val (i*64+j*8) 8
def Dg(a:GDga)(i:Nat):Int:=a.Degrees.val.getD i 0
def Lv(a:GDga)(i:Nat):Int:=a.Levels.val.getD i 0
def R5(x:Int):Prop:=0≤x∧x≤5
theorem qX.andB{o:Option Bool}{P Q:Prop}{f:Bool→Option Bool}(h:qX o P)(h1:P→qX (f true) Q)(h2:f false=some false):qX (o.bind f) (P∧Q):=by
 rcases h.case with⟨e,p⟩|⟨e,p⟩
 ·rw[e,ob]; exact(h1 p).iff ⟨fun q=>⟨p,q⟩,fun q=> q.2⟩
 ·rw[e,ob,h2]; exact .of_false rfl fun q=> p q.1
theorem UTells.andB{o:Option (Unit⊕Bool)}{P Q:Prop}{f:(Unit⊕Bool)→Option Bool}(h:UTells o P)(h1:P→qX (f (.inl ())) Q)(h2:f (.inr false)=some false):qX (o.bind f) (P∧Q):=by
 rcases h with⟨e,p⟩|⟨e,p⟩
 ·rw[e,ob]; exact(h1 p).iff ⟨fun q=>⟨p,q⟩,fun q=> q.2⟩
 ·rw[e,ob,h2]; exact .of_false rfl fun q=> p q.1
theorem qL.iteP{c P:Prop}[Decidable c]{x:Option (Unit⊕(Unit⊕Bool))}(h:c→qL x P):qL (if c then x else some (.inr (.inr false))) (c∧P):=by
 by_cases hc:c
 ·rw[if_pos hc]; exact(h hc).iff ⟨fun q=>⟨hc,q⟩,fun q=> q.2⟩
 ·rw[if_neg hc]; exact .f rfl fun q=> hc q.1
theorem qL.nite{c P:Prop}[Decidable c]{x:Option (Unit⊕(Unit⊕Bool))}(h:¬c→qL x P):qL (if c then some (.inr (.inr false))else x) (¬c∧P):=by
 by_cases hc:c
 ·rw[if_pos hc]; exact .f rfl fun q=> q.1 hc
 ·rw[if_neg hc]; exact(h hc).iff ⟨fun q=>⟨hc,q⟩,fun q=> q.2⟩
theorem qL.last{o:Option Bool}{P:Prop}{f:Bool→Option (Unit⊕(Unit⊕Bool))}(h:qX o P)(h1:f true=some (.inl ()))(h2:f false=some (.inr (.inr false))):qL (o.bind f) P:=by
 rcases h.case with⟨e,p⟩|⟨e,p⟩
 ·exact .t (by rw[e]; exact h1) p
 ·exact .f (by rw[e]; exact h2) p
abbrev nt:¬(false=true):=wC
def C2I(a:GDga)(n i j:Nat):Prop:=SmE a.Prime a.Size (Tb a i j)∧((¬i < n∨n≤j)→EqE (Tb a i j) [])∧LiE a 8 (Tb a i j) (Go.IntKind.wrap .i64 (Dg a i+Dg a j)) (Go.IntKind.wrap .i64 (Lv a i+Lv a j))
def C1I(a:GDga)(n i:Nat):Prop:=(i < n→R5 (Dg a i)∧R5 (Lv a i)∧SmE a.Prime a.Size (Df a i)∧(0 < i→¬Dg a i < Dg a (i - 1))∧LiE a 8 (Df a i) (Dg a i - 1) (Lv a i)∧∀j,j < 8→C2I a n i j)∧
 (¬i < n→Dg a i=0∧Lv a i=0∧EqE (Df a i) []∧R5 (Dg a i)∧R5 (Lv a i)∧SmE a.Prime a.Size (Df a i)∧∀j,j < 8→C2I a n i j)
theorem F176_2_tells{a:GDga}(ht:By 512 a.Table.val){n:Nat}(hn:a.Size=n){i:Nat}(hi:i < 8):UTells (forR 0 8 (xL a i) (F176_2_D a i) ()) (∀j,j < 8→C2I a n i j):=by
 refine zi 8 rfl (by decide) (C2I a n i) (fun j hj _=>?_) rfl;have hT:By 8 (Tb a i j):=xx ht (by omega);have s1:=F195_tells (a:=a) hT;have s2:=F196_tells a (Tb a i j) (Go.IntKind.wrap .i64 (Dg a i+Dg a j)) (Go.IntKind.wrap .i64 (Lv a i+Lv a j));have s3:=zy hT (by_nil 8);unfold xL C2I;rw[qD hi,ob,qD hj,ob];refine(s1.and (fun _=>?_) (if_neg nt));rw[if_pos rfl];by_cases c1:(i:Int) < a.Size
 ·rw[if_pos c1]
  by_cases c2:a.Size≤(j:Int)
  ·rw[if_pos c2]
   refine(s3.and (fun _=>?_) (if_neg nt)).iff ⟨fun q=>⟨fun _=> q.1,q.2⟩,fun q=>⟨q.1 (.inr (by omega)),q.2⟩⟩;rw[if_pos rfl];exact .last s2 (if_pos rfl) (if_neg nt)
  ·rw[if_neg c2]
   refine(qL.last s2 (if_pos rfl) (if_neg nt)).iff ⟨fun q=>⟨fun w=> by omega,q⟩,fun q=> q.2⟩
 ·rw[if_neg c1]
  refine(s3.and (fun _=>?_) (if_neg nt)).iff ⟨fun q=>⟨fun _=> q.1,q.2⟩,fun q=>⟨q.1 (.inl (by omega)),q.2⟩⟩;rw[if_pos rfl];exact .last s2 (if_pos rfl) (if_neg nt)
theorem F176_1_tells{a:GDga}(hf:By 64 a.Diff.val)(ht:By 512 a.Table.val){n:Nat}(hn:a.Size=n)(h8:n≤8){i:Nat}(hi:i < 8):qL (F176_1_B a i ()) (C1I a n i):=by
 have hT:=F176_2_tells ht hn hi;have hD:By 8 (Df a i):=xx hf (by omega);have s1:=F195_tells (a:=a) hD;have s3:=zy hD (by_nil 8);have r1:qX (F56 (a.Degrees.val.getD i 0) 0 5) (R5 (Dg a i)):=qX.dec (P:=0≤_∧_≤5) (jM _ _ _);have r2:qX (F56 (a.Levels.val.getD i 0) 0 5) (R5 (Lv a i)):=qX.dec (P:=0≤_∧_≤5) (jM _ _ _);unfold F176_1_B;by_cases c:(i:Int) < a.Size
 ·rw[if_pos c,qD hi,ob]
  refine qL.iff (P:=R5 (Dg a i)∧R5 (Lv a i)∧SmE a.Prime a.Size (Df a i)∧(0 < i→¬Dg a i < Dg a (i - 1))∧LiE a 8 (Df a i) (Dg a i - 1) (Lv a i)∧∀j,j < 8→C2I a n i j) ?_ ⟨fun q=>⟨fun _=> q,fun w=> by omega⟩,fun q=> q.1 (by omega)⟩;refine r1.and (fun q1=>?_) (if_neg nt);rw[if_pos rfl];refine r2.and (fun q2=>?_) (if_neg nt);rw[if_pos rfl];refine s1.and (fun _=>?_) (if_neg nt);rw[if_pos rfl];have q1':=q1.1;have q1'':=q1.2;simp only[Dg]at q1' q1'';have s2:=F196_tells a (Df a i) (a.Degrees.val.getD i 0 - 1) (a.Levels.val.getD i 0);by_cases c0:0 < (i:Int)
  ·rw[if_pos c0,qo (by omega) (by omega),ob,show((i:Int) - 1)=((i - 1:Nat):Int) by omega,qD (by omega),ob]
   refine qL.iff (qL.nite (P:=LiE a 8 (Df a i) (Dg a i - 1) (Lv a i)∧∀j,j < 8→C2I a n i j) fun _=>?_) ⟨fun q=>⟨fun _=> q.1,q.2⟩,fun q=>⟨q.1 (by omega),q.2⟩⟩;rw[qo (by omega) (by omega),ob];refine s2.and (fun _=>?_) (if_neg nt);rw[if_pos rfl];exact hT.round rfl rfl
  ·rw[if_neg c0,qo (by omega) (by omega),ob]
   refine qL.iff (P:=LiE a 8 (Df a i) (Dg a i - 1) (Lv a i)∧∀j,j < 8→C2I a n i j) ?_ ⟨fun q=>⟨fun w=> by omega,q⟩,fun q=> q.2⟩;refine s2.and (fun _=>?_) (if_neg nt);rw[if_pos rfl];exact hT.round rfl rfl
 ·rw[if_neg c,qD hi,ob]
  refine qL.iff (P:=Dg a i=0∧Lv a i=0∧EqE (Df a i) []∧R5 (Dg a i)∧R5 (Lv a i)∧SmE a.Prime a.Size (Df a i)∧∀j,j < 8→C2I a n i j) ?_ ⟨fun q=>⟨fun w=> by omega,fun _=> q⟩,fun q=> q.2 (by omega)⟩;refine .iteP fun _=> .iteP fun _=> s3.and (fun _=>?_) (if_neg nt);rw[if_pos rfl];refine r1.and (fun q1=>?_) (if_neg nt);rw[if_pos rfl];refine r2.and (fun q2=>?_) (if_neg nt);rw[if_pos rfl];refine s1.and (fun _=>?_) (if_neg nt);rw[if_pos rfl];exact hT.round rfl rfl
def FormI(a:GDga):Prop:=IsP a.Prime∧(1≤a.Size∧a.Size≤8)∧(∀i,i < 8→C1I a a.Size.toNat i)∧Dg a 0=0∧Lv a 0=0
theorem end2(x y:Int):qX (if x=0 then some (decide (y=0))else some false) (x=0∧y=0):=by
 by_cases c:x=0
 ·rw[if_pos c]; exact(qX.dec rfl).iff ⟨fun q=>⟨c,q⟩,fun q=> q.2⟩
 ·rw[if_neg c]; exact .of_false rfl fun q=> c q.1
theorem F176_tells{a:GDga}(hf:By 64 a.Diff.val)(ht:By 512 a.Table.val):qX (F176 a) (FormI a):=by
 unfold F176 FormI;refine(F67_tells a.Prime).andB (fun _=>?_) (if_neg nt);rw[if_pos rfl];refine(qX.dec (jM a.Size 1 8)).andB (fun hs=>?_) (if_neg nt);rw[if_pos rfl];refine(zi 8 rfl (by decide) (C1I a a.Size.toNat) (fun i hi _=> F176_1_tells hf ht (by omega) (by omega) hi) rfl).andB (fun _=>?_) rfl;exact end2 _ _
def C2S(a:GDga)(n i j:Nat):Prop:=SmE a.Prime a.Size (Tb a i j)∧((¬i < n∨n≤j)→EqE (Tb a i j) [])
def C1S(a:GDga)(n i:Nat):Prop:=(i < n→SmE a.Prime a.Size (Df a i)∧R5 (Dg a i)∧R5 (Lv a i)∧(0 < i→¬Dg a i < Dg a (i - 1))∧∀j,j < 8→C2S a n i j)∧
 (¬i < n→Dg a i=0∧Lv a i=0∧EqE (Df a i) []∧SmE a.Prime a.Size (Df a i)∧R5 (Dg a i)∧R5 (Lv a i)∧∀j,j < 8→C2S a n i j)
theorem F197_2_tells{a:GDga}(ht:By 512 a.Table.val){n:Nat}(hn:a.Size=n){i:Nat}(hi:i < 8):UTells (forR 0 8 (jB a i) (jP a i) ()) (∀j,j < 8→C2S a n i j):=by
 refine zi 8 rfl (by decide) (C2S a n i) (fun j hj _=>?_) rfl;have hT:By 8 (Tb a i j):=xx ht (by omega);have s1:=F181_tells (p:=a.Prime) (s:=a.Size) hT;have s3:=zy hT (by_nil 8);unfold jB C2S;rw[qD hi,ob,qD hj,ob];refine(s1.and (fun _=>?_) (if_neg nt));rw[if_pos rfl];by_cases c1:a.Size≤(i:Int)
 ·rw[if_pos c1]
  exact(qL.last s3 (if_pos rfl) (if_neg nt)).iff ⟨fun q _=> q,fun q=> q (.inl (by omega))⟩
 ·rw[if_neg c1]
  by_cases c2:a.Size≤(j:Int)
  ·rw[if_pos c2]
   exact(qL.last s3 (if_pos rfl) (if_neg nt)).iff ⟨fun q _=> q,fun q=> q (.inr (by omega))⟩
  ·rw[if_neg c2]
   exact .t rfl fun w=> by omega
theorem F197_1_tells{a:GDga}(hf:By 64 a.Diff.val)(ht:By 512 a.Table.val){n:Nat}(hn:a.Size=n)(h8:n≤8){i:Nat}(hi:i < 8):qL (F197_1_B a i ()) (C1S a n i):=by
 have hT:=F197_2_tells ht hn hi;have hD:By 8 (Df a i):=xx hf (by omega);have s1:=F181_tells (p:=a.Prime) (s:=a.Size) hD;have s3:=zy hD (by_nil 8);have r1:qX (F54 (a.Degrees.val.getD i 0) 0 5) (R5 (Dg a i)):=qX.dec (P:=0≤_∧_≤5) (xg _ _ _);have r2:qX (F54 (a.Levels.val.getD i 0) 0 5) (R5 (Lv a i)):=qX.dec (P:=0≤_∧_≤5) (xg _ _ _);unfold F197_1_B;by_cases c:a.Size≤(i:Int)
 ·rw[if_pos c,qD hi,ob]
  refine qL.iff (P:=Dg a i=0∧Lv a i=0∧EqE (Df a i) []∧SmE a.Prime a.Size (Df a i)∧R5 (Dg a i)∧R5 (Lv a i)∧∀j,j < 8→C2S a n i j) ?_ ⟨fun q=>⟨fun w=> by omega,fun _=> q⟩,fun q=> q.2 (by omega)⟩;refine .iteP fun _=> .iteP fun _=> s3.and (fun _=>?_) (if_neg nt);rw[if_pos rfl];refine s1.and (fun _=>?_) (if_neg nt);rw[if_pos rfl];refine r1.and (fun q1=>?_) (if_neg nt);rw[if_pos rfl];refine r2.and (fun q2=>?_) (if_neg nt);rw[if_pos rfl];by_cases c0:0 < (i:Int)
  ·rw[if_pos c0,if_neg (by omega)]; exact hT.round rfl rfl
  ·rw[if_neg c0]; exact hT.round rfl rfl
 ·rw[if_neg c,qD hi,ob]
  refine qL.iff (P:=SmE a.Prime a.Size (Df a i)∧R5 (Dg a i)∧R5 (Lv a i)∧(0 < i→¬Dg a i < Dg a (i - 1))∧∀j,j < 8→C2S a n i j) ?_ ⟨fun q=>⟨fun _=> q,fun w=> by omega⟩,fun q=> q.1 (by omega)⟩;refine s1.and (fun _=>?_) (if_neg nt);rw[if_pos rfl];refine r1.and (fun q1=>?_) (if_neg nt);rw[if_pos rfl];refine r2.and (fun q2=>?_) (if_neg nt);rw[if_pos rfl];by_cases c0:0 < (i:Int)
  ·rw[if_pos c0,if_pos (by omega),qo (by omega) (by omega),ob,show((i:Int) - 1)=((i - 1:Nat):Int) by omega,qD (by omega),ob]
   refine qL.iff (qL.nite (P:=∀j,j < 8→C2S a n i j) fun _=> hT.round rfl rfl) ⟨fun q=>⟨fun _=> q.1,q.2⟩,fun q=>⟨q.1 (by omega),q.2⟩⟩
  ·rw[if_neg c0]
   exact(hT.round rfl rfl).iff ⟨fun q=>⟨fun w=> by omega,q⟩,fun q=> q.2⟩
def C4S(a:GDga)(n i:Nat):Prop:=LiE a n (Df a i) (Dg a i - 1) (Lv a i)∧∀j,j < n→LiE a n (Tb a i j) (Dg a i+Dg a j) (Lv a i+Lv a j)
theorem F197_3_tells{a:GDga}{n:Nat}(hn:a.Size=n)(h8:n≤8)(hr:∀i,i < 8→R5 (Dg a i)∧R5 (Lv a i)){i:Nat}(hi:i < n):qL (F197_3_B a i ()) (C4S a n i):=by
 have hi8:i < 8:=by omega
 have q1:=hr i hi8;simp only[R5,Dg,Lv]at q1;unfold F197_3_B C4S;rw[qD hi8,ob,qo (by omega) (by omega),ob];refine(F210_tells hn h8 (Df a i) (a.Degrees.val.getD i 0 - 1) (a.Levels.val.getD i 0)).and (fun _=>?_) (if_neg nt);rw[if_pos rfl];refine(zi n hn (by omega) (fun j=> LiE a n (Tb a i j) (Dg a i+Dg a j) (Lv a i+Lv a j)) (fun j hj _=>?_) rfl).round rfl rfl;have hj8:j < 8:=by omega
 have q2:=hr j hj8;simp only[R5,Dg,Lv]at q2;unfold F197_4_B;rw[qD hi8,ob,qD hj8,ob,qo (by omega) (by omega),ob,qo (by omega) (by omega),ob];exact .last (F210_tells hn h8 (Tb a i j) _ _) (if_pos rfl) (if_neg nt)
def FormS(a:GDga):Prop:=IsP a.Prime∧(1≤a.Size∧a.Size≤8)∧(∀i,i < 8→C1S a a.Size.toNat i)∧(∀i,i < a.Size.toNat→C4S a a.Size.toNat i)∧Dg a 0=0∧Lv a 0=0
theorem C1S.rng{a:GDga}{n i:Nat}(h:C1S a n i):R5 (Dg a i)∧R5 (Lv a i):=by
 by_cases c:i < n
 ·exact⟨(h.1 c).2.1,(h.1 c).2.2.1⟩
 ·exact⟨(h.2 c).2.2.2.2.1,(h.2 c).2.2.2.2.2.1⟩
theorem F197_tells{a:GDga}(hf:By 64 a.Diff.val)(ht:By 512 a.Table.val):qX (F197 a) (FormS a):=by
 unfold F197 FormS;refine(F78_tells a.Prime).andB (fun _=>?_) (if_neg nt);rw[if_pos rfl];refine(qX.dec (xg a.Size 1 8)).andB (fun hs=>?_) (if_neg nt);rw[if_pos rfl];refine(zi 8 rfl (by decide) (C1S a a.Size.toNat) (fun i hi _=> F197_1_tells hf ht (by omega) (by omega) hi) rfl).andB (fun h1=>?_) rfl;refine(zi a.Size.toNat (by omega) (by omega) (C4S a a.Size.toNat) (fun i hi _=> F197_3_tells (by omega) (by omega) (fun i hi=>(h1 i hi).rng) hi) rfl).andB (fun _=>?_) rfl;exact end2 _ _
theorem LiE.cut{a:GDga}{n:Nat}(hn:a.Size=n)(h8:n≤8){u:List Int}{d l:Int}(hs:SmE a.Prime a.Size u):LiE a 8 u d l↔LiE a n u d l:=
 ⟨fun h k hk=> h k (by omega),fun h k hk hu=> by
  by_cases c:k < n
  ·exact h k c hu
  ·exact absurd ((hs k hk).2 (by omega)) hu⟩
theorem wrap_small{x:Int}(h0:0≤x)(h1:x≤100):Go.IntKind.wrap .i64 x=x:=wrap_i64 (by omega) (by omega)
theorem LiE.zero{a:GDga}{n:Nat}{u:List Int}{d l:Int}(hn:n≤8)(h:EqE u []):LiE a n u d l:=fun k hk hu=> absurd (by have:=h k (by omega); simpa using this) hu
theorem form_iff{a:GDga}:FormI a↔FormS a:=by
 unfold FormI FormS;constructor
 ·rintro⟨hp,hs,h1,h0⟩
  have hr:∀i,i < 8→R5 (Dg a i)∧R5 (Lv a i):=fun i hi=> by
   by_cases c:i < a.Size.toNat
   ·exact⟨((h1 i hi).1 c).1,((h1 i hi).1 c).2.1⟩
   ·exact⟨((h1 i hi).2 c).2.2.2.1,((h1 i hi).2 c).2.2.2.2.1⟩
  refine⟨hp,hs,fun i hi=>⟨fun c=>?_,fun c=>?_⟩,fun i hi=>?_,h0⟩
  ·obtain⟨a1,a2,a3,a4,a5,a6⟩:=(h1 i hi).1 c
   exact⟨a3,a1,a2,a4,fun j hj=>⟨(a6 j hj).1,(a6 j hj).2.1⟩⟩
  ·obtain⟨a1,a2,a3,a4,a5,a6,a7⟩:=(h1 i hi).2 c
   exact⟨a1,a2,a3,a6,a4,a5,fun j hj=>⟨(a7 j hj).1,(a7 j hj).2.1⟩⟩
  ·obtain⟨a1,a2,a3,a4,a5,a6⟩:=(h1 i (by omega)).1 hi
   refine⟨(LiE.cut (by omega) (by omega) a3).1 a5,fun j hj=>?_⟩;obtain⟨b1,b2,b3⟩:=a6 j (by omega);have r:=hr j (by omega);simp only[R5]at a1 a2 r;rw[wrap_small (by omega) (by omega),wrap_small (by omega) (by omega)]at b3;exact(LiE.cut (by omega) (by omega) b1).1 b3
 ·rintro⟨hp,hs,h1,h4,h0⟩
  have hr:∀i,i < 8→R5 (Dg a i)∧R5 (Lv a i):=fun i hi=>(h1 i hi).rng;have c2:∀i j,i < 8→j < 8→C2S a a.Size.toNat i j→C2I a a.Size.toNat i j:=fun i j hi hj h=> by
   refine⟨h.1,h.2,?_⟩;have r1:=hr i hi;have r2:=hr j hj;simp only[R5]at r1 r2;rw[wrap_small (by omega) (by omega),wrap_small (by omega) (by omega)];by_cases c:i < a.Size.toNat∧j < a.Size.toNat
   ·exact(LiE.cut (by omega) (by omega) h.1).2 ((h4 i c.1).2 j c.2)
   ·exact .zero (by omega) (h.2 (by omega))
  refine⟨hp,hs,fun i hi=>⟨fun c=>?_,fun c=>?_⟩,h0⟩
  ·obtain⟨a1,a2,a3,a4,a5⟩:=(h1 i hi).1 c
   exact⟨a2,a3,a1,a4,(LiE.cut (by omega) (by omega) a1).2 (h4 i c).1,fun j hj=> c2 i j hi hj (a5 j hj)⟩
  ·obtain⟨a1,a2,a3,a4,a5,a6,a7⟩:=(h1 i hi).2 c
   exact⟨a1,a2,a3,a5,a6,a4,fun j hj=> c2 i j hi hj (a7 j hj)⟩
theorem wrap_u8{x:Int}(h0:0≤x)(h1:x≤255):Go.IntKind.wrap .u8 x=x:=by
 unfold Go.IntKind.wrap;simp[Go.IntKind.bits,Go.IntKind.signed];omega
theorem norm_mod{p c:Int}(hp:2≤p∧p≤7): -p < c.tmod p∧c.tmod p < p∧(c.tmod p+p).tmod p=c% p:=by
 have h1:c.tmod p < p:=Int.tmod_lt_of_pos c (by omega);have h2:(-c).tmod p < p:=Int.tmod_lt_of_pos (-c) (by omega);rw[Int.neg_tmod]at h2;refine⟨by omega,h1,?_⟩;rw[vY (by omega),Int.add_emod_right];exact Cg.emod tmod_cg
def Mo(p:Int)(u:List Int):Prop:=∀k,k < 8→0≤u.getD k 0∧u.getD k 0 < p
theorem Mo.nil{p:Int}(hp:0 < p):Mo p []:=fun k _=> by simpa using hp
theorem F70_eq{a:GDga}(hp:2≤a.Prime∧a.Prime≤7){u v:List Int}(hu:Mo a.Prime u)(hv:By 8 v){c:Int}(hc: -1000≤c∧c≤1000):
  ∃w,F70 a ⟨u⟩ ⟨v⟩ c=some ⟨w⟩∧∀k,k < 8→w.getD k 0=(u.getD k 0+c*v.getD k 0)% a.Prime:=by
 obtain⟨hm0,hm3,hm⟩:=norm_mod (c:=c) hp;have hm1:=yO c (show a.Prime≠0 by omega);have hm2:=yE c (show 0 < a.Prime by omega);obtain⟨w,h1,h2⟩:=qt (B:=F70_1_B a ⟨v⟩ (c% a.Prime)) (D:=F70_1_D a ⟨v⟩ (c% a.Prime)) (hi:=8) 8 rfl (by decide) (fun i o=>∀k,k < 8→o.getD k 0=if k < i then(u.getD k 0+c*v.getD k 0)% a.Prime else u.getD k 0) (fun w=>∀k,k < 8→w.getD k 0=(u.getD k 0+c*v.getD k 0)% a.Prime) (s:=u) (fun k hk=> by rw[if_neg (by omega)]) (fun i o hi ho=> by
  have e:=ho i hi;rw[if_neg (by omega)]at e;have u1:=hu i hi;have v1:=hv i hi;have m1:0≤c% a.Prime*v.getD i 0:=Int.mul_nonneg hm1 v1.1;have m2:c% a.Prime*v.getD i 0≤7*255:=Int.mul_le_mul (by omega) v1.2 v1.1 (by omega);have n1:=yO (u.getD i 0+c% a.Prime*v.getD i 0) (show a.Prime≠0 by omega);have n2:=yE (u.getD i 0+c% a.Prime*v.getD i 0) (show 0 < a.Prime by omega);refine .inl ⟨arW 8 o i ((u.getD i 0+c% a.Prime*v.getD i 0)% a.Prime),?_,fun k hk=>?_⟩
  ·unfold F70_1_B
   rw[qD hi,ob,e,qo (by omega) (by omega),ob];simp only;rw[qo (by omega) (by omega),ob,qo (by omega) (by omega),ob,qo (by omega) (by omega),ob,jk (by omega),ob,vY (by omega),wrap_u8 n1 (by omega),ob]
  ·rw[arW_get hk]
   by_cases hk2:k=i
   ·rw[if_pos hk2,if_pos (by omega),hk2,Int.add_emod,Int.mul_emod,Int.emod_emod_of_dvd _ (Int.dvd_refl _),←Int.mul_emod,←Int.add_emod]
   ·rw[if_neg hk2,ho k hk]
    by_cases hk3:k < i
    ·rw[if_pos hk3,if_pos (by omega)]
    ·rw[if_neg hk3,if_neg (by omega)]) (fun o ho=>⟨o,rfl,fun k hk=> by rw[ho k hk,if_pos hk]⟩)
 refine⟨w,?_,h2⟩;unfold F70;rw[jk (by omega),ob,qo (by omega) (by omega),ob,jk (by omega),ob,hm,h1,ob]
theorem F105_eq{p:Int}(hp:2≤p∧p≤7){u v:List Int}(hu:Mo p u)(hv:By 8 v){c:Int}(hc: -1000≤c∧c≤1000):
  ∃w,F105 p ⟨u⟩ ⟨v⟩ c=some ⟨w⟩∧∀k,k < 8→w.getD k 0=(u.getD k 0+c*v.getD k 0)% p:=by
 obtain⟨w,h1,h2⟩:=qt (B:=F105_1_B p ⟨v⟩ c) (D:=F105_1_D p ⟨v⟩ c) (hi:=8) 8 rfl (by decide) (fun i o=>∀k,k < 8→o.getD k 0=if k < i then(u.getD k 0+c*v.getD k 0)% p else u.getD k 0) (fun w=>∀k,k < 8→w.getD k 0=(u.getD k 0+c*v.getD k 0)% p) (s:=u) (fun k hk=> by rw[if_neg (by omega)]) (fun i o hi ho=> by
  have e:=ho i hi;rw[if_neg (by omega)]at e;have u1:=hu i hi;have v1:=hv i hi;have m1: -255000≤c*v.getD i 0∧c*v.getD i 0≤255000:=by
   have a1:c*v.getD i 0≤1000*v.getD i 0:=Int.mul_le_mul_of_nonneg_right hc.2 v1.1;have a2:(-1000)*v.getD i 0≤c*v.getD i 0:=Int.mul_le_mul_of_nonneg_right hc.1 v1.1;omega
  have n1:=yO (u.getD i 0+c*v.getD i 0) (show p≠0 by omega);have n2:=yE (u.getD i 0+c*v.getD i 0) (show 0 < p by omega);refine .inl ⟨arW 8 o i ((u.getD i 0+c*v.getD i 0)% p),?_,fun k hk=>?_⟩
  ·unfold F105_1_B
   rw[qD hi,ob,e,qo (by omega) (by omega),ob];simp only;rw[qo (by omega) (by omega),ob,qo (by omega) (by omega),ob,qo (by omega) (by omega),ob,F127_eq hp,ob,wrap_u8 n1 (by omega),ob]
  ·rw[arW_get hk]
   by_cases hk2:k=i
   ·rw[if_pos hk2,if_pos (by omega),hk2]
   ·rw[if_neg hk2,ho k hk]
    by_cases hk3:k < i
    ·rw[if_pos hk3,if_pos (by omega)]
    ·rw[if_neg hk3,if_neg (by omega)]) (fun o ho=>⟨o,rfl,fun k hk=> by rw[ho k hk,if_pos hk]⟩)
 refine⟨w,?_,h2⟩;unfold F105;rw[h1,ob]
def sumN(f:Nat→Int):Nat→Int
 |0=> 0
 |n+1=> sumN f n+f n
theorem sumN_ext{f g:Nat→Int}:∀ {n:Nat},(∀i,i < n→f i=g i)→sumN f n=sumN g n
 |0,_=> rfl
 |n+1,h=> by rw[sumN,sumN,sumN_ext fun i hi=> h i (by omega),h n (by omega)]
theorem sumN_cut{f:Nat→Int}{n:Nat}:∀ {m:Nat},n≤m→(∀i,n≤i→i < m→f i=0)→sumN f m=sumN f n
 |0,h,_=> by rw[show n=0 by omega]
 |m+1,h,h0=> by
  by_cases e:n=m+1
  ·rw[e]
  ·rw[sumN,sumN_cut (show n≤m by omega) fun i a b=> h0 i a (by omega),h0 m (by omega) (by omega),Int.add_zero]
theorem sumN_zero{f:Nat→Int}{n:Nat}(h:∀i,i < n→f i=0):sumN f n=0:=sumN_cut (n:=0) (yF _) fun i _ hi=> h i hi
theorem sumN_one{f:Nat→Int}{n j:Nat}(hj:j < n)(h:∀i,i < n→i≠j→f i=0):sumN f n=f j:=by
 rw[sumN_cut (n:=j+1) (by omega) fun i a b=> h i b (by omega),sumN,sumN_zero fun i hi=> h i (by omega) (by omega),Int.zero_add]
theorem acc_loop{B:Int→List Int→Option (List Int⊕List Int)}{D:Int→List Int→Option (List Int)}{m:Nat}{hi p:Int}(hm:hi=m)(h8:m≤8)(hp:0 < p)(t:Nat→Nat→Int){b:List Int}(hb:Mo p b)
  (hB:∀ (j:Nat) o,j < m→Mo p o→∃w,B j o=some (.inl w)∧∀k,k < 8→w.getD k 0=(o.getD k 0+t j k)% p) (hD:∀o,D m o=some o):
  ∃w,forR 0 hi B D b=some w∧Mo p w∧∀k,k < 8→w.getD k 0=(b.getD k 0+sumN (fun j=> t j k) m)% p:=by
 obtain⟨w,h1,h2,h3⟩:=qt (B:=B) (D:=D) (hi:=hi) m hm (by omega) (fun i o=> Mo p o∧∀k,k < 8→o.getD k 0=(b.getD k 0+sumN (fun j=> t j k) i)% p) (fun w=> Mo p w∧∀k,k < 8→w.getD k 0=(b.getD k 0+sumN (fun j=> t j k) m)% p) (s:=b) ⟨hb,fun k hk=> by
   rw[sumN,Int.add_zero,yC (hb k hk).1 (hb k hk).2]⟩ (fun i o hi ho=> by
  obtain⟨w,w1,w2⟩:=hB i o hi ho.1;refine .inl ⟨w,w1,fun k hk=>?_,fun k hk=>?_⟩
  ·rw[w2 k hk]; exact⟨yO _ (by omega),yE _ hp⟩
  ·rw[w2 k hk,ho.2 k hk,sumN,←Int.add_assoc,Int.emod_add_emod]) (fun o ho=>⟨o,hD o,ho⟩)
 exact⟨w,h1,h2,h3⟩
def mulF(a:GDga)(n:Nat)(u v:List Int)(k:Nat):Int:=sumN (fun i=> sumN (fun j=> u.getD i 0*v.getD j 0*(Tb a i j).getD k 0) n) n% a.Prime
def difF(a:GDga)(n:Nat)(u:List Int)(k:Nat):Int:=sumN (fun i=> u.getD i 0*(Df a i).getD k 0) n% a.Prime
theorem mod_keep{o p:Int}{k:Nat}{w:List Int}(h:0≤w.getD k 0∧w.getD k 0 < p)(hz:o=0):w.getD k 0=(w.getD k 0+o)% p:=by
 rw[hz,Int.add_zero,yC h.1 h.2]
theorem mul6{p x y:Int}(hp:p≤7)(hx:0≤x∧x < p)(hy:0≤y∧y < p):0≤x*y∧x*y≤36:=by
 have h1:x*y≤6*6:=Int.mul_le_mul (by omega) (by omega) hy.1 (by omega);exact⟨Int.mul_nonneg hx.1 hy.1,by omega⟩
theorem F177_eq{a:GDga}(hp:2≤a.Prime∧a.Prime≤7)(ht:By 512 a.Table.val){u v:List Int}(hu:Mo a.Prime u)(hv:Mo a.Prime v):
  ∃w,F177 a ⟨u⟩ ⟨v⟩=some ⟨w⟩∧Mo a.Prime w∧∀k,k < 8→w.getD k 0=mulF a 8 u v k:=by
 obtain⟨w,h1,h2,h3⟩:=acc_loop (B:=F177_1_B a ⟨u⟩ ⟨v⟩) (D:=F177_1_D a ⟨u⟩ ⟨v⟩) (m:=8) (hi:=8) (p:=a.Prime) rfl (by omega) (by omega) (fun i k=> sumN (fun j=> u.getD i 0*v.getD j 0*(Tb a i j).getD k 0) 8) (b:=[]) (.nil (by omega)) (fun i o hi ho=> by
  obtain⟨w,g1,g2,g3⟩:=acc_loop (B:=F177_2_B a ⟨u⟩ ⟨v⟩ i i) (D:=F177_2_D a ⟨u⟩ ⟨v⟩ i i) (m:=8) (hi:=8) (p:=a.Prime) rfl (by omega) (by omega) (fun j k=> u.getD i 0*v.getD j 0*(Tb a i j).getD k 0) ho (fun j o hj ho=> by
   have u1:=hu i hi;have v1:=hv j hj;have uv:=mul6 (by omega) u1 v1;have hT:By 8 (Tb a i j):=xx ht (by omega);unfold F177_2_B;rw[qD hj,ob];simp only;by_cases c1:u.getD i 0=0
   ·rw[if_pos c1]; exact⟨o,rfl,fun k hk=> mod_keep (ho k hk) (by rw[c1,yJ,yJ])⟩
   rw[if_neg c1];by_cases c2:v.getD j 0=0
   ·rw[if_pos c2]; exact⟨o,rfl,fun k hk=> mod_keep (ho k hk) (by rw[c2,Int.mul_zero,yJ])⟩
   obtain⟨w,w1,w2⟩:=F70_eq hp ho hT (c:=u.getD i 0*v.getD j 0) (by omega);have w1':F70 a ⟨o⟩ ⟨arP a.Table.val (i*64+j*8) 8⟩ (u.getD i 0*v.getD j 0)=some ⟨w⟩:=w1;rw[if_neg c2,qD hi,ob,qo (by omega) (by omega),ob,qo (by omega) (by omega),ob,qo (by omega) (by omega),ob,w1',ob];exact⟨w,rfl,w2⟩) (fun o=> rfl)
  unfold F177_1_B;rw[qD hi,ob,g1,ob];exact⟨w,rfl,g3⟩) (fun o=> rfl)
 refine⟨w,?_,h2,fun k hk=>?_⟩
 ·unfold F177; rw[h1,ob]
 ·rw[h3 k hk]; simp[mulF]
theorem F199_eq{a:GDga}(hp:2≤a.Prime∧a.Prime≤7)(ht:By 512 a.Table.val){n:Nat}(hn:a.Size=n)(h8:n≤8){u v:List Int}(hu:Mo a.Prime u)(hv:Mo a.Prime v):
  ∃w,F199 a ⟨u⟩ ⟨v⟩=some ⟨w⟩∧Mo a.Prime w∧∀k,k < 8→w.getD k 0=mulF a n u v k:=by
 obtain⟨w,h1,h2,h3⟩:=acc_loop (B:=F199_1_B a ⟨u⟩ ⟨v⟩) (D:=F199_1_D a ⟨u⟩ ⟨v⟩) (m:=n) (hi:=a.Size) (p:=a.Prime) hn h8 (by omega) (fun i k=> sumN (fun j=> u.getD i 0*v.getD j 0*(Tb a i j).getD k 0) n) (b:=[]) (.nil (by omega)) (fun i o hi ho=> by
  obtain⟨w,g1,g2,g3⟩:=acc_loop (B:=F199_2_B a ⟨u⟩ ⟨v⟩ i) (D:=F199_2_D a ⟨u⟩ ⟨v⟩ i) (m:=n) (hi:=a.Size) (p:=a.Prime) hn h8 (by omega) (fun j k=> u.getD i 0*v.getD j 0*(Tb a i j).getD k 0) ho (fun j o hj ho=> by
   have u1:=hu i (by omega);have v1:=hv j (by omega);have uv:=mul6 (by omega) u1 v1;have hT:By 8 (Tb a i j):=xx ht (by omega);unfold F199_2_B;rw[qD (show i < 8 by omega),ob];simp only;by_cases c1:u.getD i 0=0
   ·rw[if_pos c1]; exact⟨o,rfl,fun k hk=> mod_keep (ho k hk) (by rw[c1,yJ,yJ])⟩
   rw[if_neg c1,qD (show j < 8 by omega),ob];by_cases c2:v.getD j 0=0
   ·rw[if_pos c2]; exact⟨o,rfl,fun k hk=> mod_keep (ho k hk) (by rw[c2,Int.mul_zero,yJ])⟩
   obtain⟨w,w1,w2⟩:=F105_eq hp ho hT (c:=u.getD i 0*v.getD j 0) (by omega);have w1':F105 a.Prime ⟨o⟩ ⟨arP a.Table.val (i*64+j*8) 8⟩ (u.getD i 0*v.getD j 0)=some ⟨w⟩:=w1;rw[if_neg c2,qo (by omega) (by omega),ob,qo (by omega) (by omega),ob,qo (by omega) (by omega),ob,w1',ob];exact⟨w,rfl,w2⟩) (fun o=> rfl)
  unfold F199_1_B;rw[g1,ob];exact⟨w,rfl,g3⟩) (fun o=> rfl)
 refine⟨w,?_,h2,fun k hk=>?_⟩
 ·unfold F199; rw[h1,ob]
 ·rw[h3 k hk]; simp[mulF]
theorem F178_eq{a:GDga}(hp:2≤a.Prime∧a.Prime≤7)(hf:By 64 a.Diff.val){u:List Int}(hu:Mo a.Prime u):
  ∃w,F178 a ⟨u⟩=some ⟨w⟩∧Mo a.Prime w∧∀k,k < 8→w.getD k 0=difF a 8 u k:=by
 obtain⟨w,h1,h2,h3⟩:=acc_loop (B:=F178_1_B a ⟨u⟩) (D:=F178_1_D a ⟨u⟩) (m:=8) (hi:=8) (p:=a.Prime) rfl (by omega) (by omega) (fun i k=> u.getD i 0*(Df a i).getD k 0) (b:=[]) (.nil (by omega)) (fun i o hi ho=> by
  have u1:=hu i hi;have hT:By 8 (Df a i):=xx hf (by omega);obtain⟨w,w1,w2⟩:=F70_eq hp ho hT (c:=u.getD i 0) (by omega);have w1':F70 a ⟨o⟩ ⟨arP a.Diff.val (i*8) 8⟩ (u.getD i 0)=some ⟨w⟩:=w1;unfold F178_1_B;rw[qD hi,ob];simp only;rw[qo (by omega) (by omega),ob,w1',ob];exact⟨w,rfl,w2⟩) (fun o=> rfl)
 refine⟨w,?_,h2,fun k hk=>?_⟩
 ·unfold F178; rw[h1,ob]
 ·rw[h3 k hk]; simp[difF]
theorem F198_eq{a:GDga}(hp:2≤a.Prime∧a.Prime≤7)(hf:By 64 a.Diff.val){n:Nat}(hn:a.Size=n)(h8:n≤8){u:List Int}(hu:Mo a.Prime u):
  ∃w,F198 a ⟨u⟩=some ⟨w⟩∧Mo a.Prime w∧∀k,k < 8→w.getD k 0=difF a n u k:=by
 obtain⟨w,h1,h2,h3⟩:=acc_loop (B:=F198_1_B a ⟨u⟩) (D:=F198_1_D a ⟨u⟩) (m:=n) (hi:=a.Size) (p:=a.Prime) hn h8 (by omega) (fun i k=> u.getD i 0*(Df a i).getD k 0) (b:=[]) (.nil (by omega)) (fun i o hi ho=> by
  have u1:=hu i (by omega);have hT:By 8 (Df a i):=xx hf (by omega);obtain⟨w,w1,w2⟩:=F105_eq hp ho hT (c:=u.getD i 0) (by omega);have w1':F105 a.Prime ⟨o⟩ ⟨arP a.Diff.val (i*8) 8⟩ (u.getD i 0)=some ⟨w⟩:=w1;unfold F198_1_B;rw[qD (show i < 8 by omega),ob];simp only;rw[qo (by omega) (by omega),ob,w1',ob];exact⟨w,rfl,w2⟩) (fun o=> rfl)
 refine⟨w,?_,h2,fun k hk=>?_⟩
 ·unfold F198; rw[h1,ob]
 ·rw[h3 k hk]; simp[difF]
def uE(i:Nat):List Int:=arW 8 [] i 1
theorem uE_get{i k:Nat}(hk:k < 8):(uE i).getD k 0=if k=i then 1 else 0:=by
 unfold uE; rw[arW_get hk]; simp
theorem F69_eq{a:GDga}{i:Nat}(hi:i < 8):F69 a i=some ⟨uE i⟩:=by
 unfold F69; rw[qD hi,ob,ob]; rfl
theorem F104_eq{i:Nat}(hi:i < 8):F104 i=some ⟨uE i⟩:=by
 unfold F104; rw[qD hi,ob,ob]; rfl
theorem uE_mo{p:Int}(hp:2≤p)(i:Nat):Mo p (uE i):=fun k hk=> by
 rw[uE_get hk]; split <;> omega
theorem xC{p:Int}(hp:p≤7){u:List Int}(h:Mo p u):By 8 u:=fun k hk=> by have:=h k hk; omega
theorem sm_mo{p s:Int}{u:List Int}(hb:By 8 u)(h:SmE p s u):Mo p u:=fun k hk=>⟨(hb k hk).1,(h k hk).1⟩
theorem mul_cut{a:GDga}{n:Nat}(h8:n≤8){u v:List Int}(hu:∀k,n≤k→k < 8→u.getD k 0=0)(hv:∀k,n≤k→k < 8→v.getD k 0=0)(k:Nat):mulF a 8 u v k=mulF a n u v k:=by
 unfold mulF;rw[sumN_cut h8 fun i h1 h2=> sumN_zero fun j _=> by rw[hu i h1 h2,yJ,yJ]];rw[sumN_ext fun i hi=> sumN_cut h8 fun j h1 h2=> by rw[hv j h1 h2,Int.mul_zero,yJ]]
theorem dif_cut{a:GDga}{n:Nat}(h8:n≤8){u:List Int}(hu:∀k,n≤k→k < 8→u.getD k 0=0)(k:Nat):difF a 8 u k=difF a n u k:=by
 unfold difF;rw[sumN_cut h8 fun i h1 h2=> by rw[hu i h1 h2,yJ]]
theorem sum_units{a:GDga}{i j:Nat}(hi:i < 8)(hj:j < 8)(k:Nat):mulF a 8 (uE i) (uE j) k=(Tb a i j).getD k 0% a.Prime:=by
 unfold mulF;rw[sumN_one hi fun i' h1 h2=> sumN_zero fun j' _=> by rw[uE_get h1,if_neg h2,yJ,yJ]];rw[sumN_one hj fun j' h1 h2=> by rw[uE_get (i:=j) h1,if_neg h2,Int.mul_zero,yJ]];rw[uE_get hi,uE_get hj,if_pos rfl,if_pos rfl,Int.one_mul,Int.one_mul]
structure jm (a:GDga) (n:Nat):Prop where
 p:IsP a.Prime
 s:a.Size=n
 n1:1≤n
 n8:n≤8
 r:∀i,i < 8→R5 (Dg a i)∧R5 (Lv a i)
 out:∀i,n≤i→i < 8→Dg a i=0∧Lv a i=0
 mono:∀i,0 < i→i < n→Dg a (i - 1)≤Dg a i
 dm:∀i,i < 8→Mo a.Prime (Df a i)
 dz:∀i k,i < 8→n≤k→k < 8→(Df a i).getD k 0=0
 tm:∀i j,i < 8→j < 8→Mo a.Prime (Tb a i j)
 tz:∀i j k,i < 8→j < 8→n≤k→k < 8→(Tb a i j).getD k 0=0
 dl:∀i,i < n→LiE a 8 (Df a i) (Dg a i - 1) (Lv a i)
 z:Dg a 0=0∧Lv a 0=0
theorem FormI.good{a:GDga}(hf:By 64 a.Diff.val)(ht:By 512 a.Table.val)(h:FormI a):∃n,jm a n:=by
 obtain⟨hp,hs,h1,h0⟩:=h;have hr:∀i,i < 8→R5 (Dg a i)∧R5 (Lv a i):=fun i hi=> by
  by_cases c:i < a.Size.toNat
  ·exact⟨((h1 i hi).1 c).1,((h1 i hi).1 c).2.1⟩
  ·exact⟨((h1 i hi).2 c).2.2.2.1,((h1 i hi).2 c).2.2.2.2.1⟩
 have hd:∀i,i < 8→SmE a.Prime a.Size (Df a i):=fun i hi=> by
  by_cases c:i < a.Size.toNat
  ·exact((h1 i hi).1 c).2.2.1
  ·exact((h1 i hi).2 c).2.2.2.2.2.1
 have hc2:∀i,i < 8→∀j,j < 8→C2I a a.Size.toNat i j:=fun i hi=> by
  by_cases c:i < a.Size.toNat
  ·exact((h1 i hi).1 c).2.2.2.2.2
  ·exact((h1 i hi).2 c).2.2.2.2.2.2
 refine⟨a.Size.toNat,hp,by omega,by omega,by omega,hr,fun i h2 h3=>?_,fun i h2 h3=>?_,fun i hi=> sm_mo (xx hf (by omega)) (hd i hi),fun i k hi h2 h3=>(hd i hi k h3).2 (by omega),fun i j hi hj=> sm_mo (xx ht (by omega)) (hc2 i hi j hj).1,fun i j k hi hj h2 h3=>((hc2 i hi j hj).1 k h3).2 (by omega),fun i hi=>((h1 i (by omega)).1 hi).2.2.2.2.1,h0⟩
 ·have:=(h1 i h3).2 (by omega); exact⟨this.1,this.2.1⟩
 ·have:=((h1 i (by omega)).1 h3).2.2.2.1 h2; omega
def sg(a:GDga)(i:Nat):Int:=1 - Dg a i% 2*2
def Al3(a:GDga)(n i j l:Nat):Prop:=∀k,k < 8→mulF a n (Tb a i j) (uE l) k=mulF a n (uE i) (Tb a j l) k
def Al2(a:GDga)(n i j:Nat):Prop:=(∀k,k < 8→difF a n (Tb a i j) k=(mulF a n (Df a i) (uE j) k+sg a i*mulF a n (uE i) (Df a j) k)% a.Prime)∧∀l,l < n→Al3 a n i j l
def Al1(a:GDga)(n i:Nat):Prop:=EqE (Tb a 0 i) (uE i)∧EqE (Tb a i 0) (uE i)∧(∀k,k < 8→difF a n (Df a i) k=0)∧∀j,j < n→Al2 a n i j
theorem EqE.of{u v:List Int}{f g:Nat→Int}(hu:∀k,k < 8→u.getD k 0=f k)(hv:∀k,k < 8→v.getD k 0=g k):EqE u v↔∀k,k < 8→f k=g k:=
 ⟨fun h k hk=>(hu k hk).symm.trans ((h k hk).trans (hv k hk)),fun h k hk=>(hu k hk).trans ((h k hk).trans (hv k hk).symm)⟩
theorem iff_k{f g f' g':Nat→Int}(hf:∀k,k < 8→f k=f' k)(hg:∀k,k < 8→g k=g' k):(∀k,k < 8→f k=g k)↔∀k,k < 8→f' k=g' k:=
 ⟨fun h k hk=>(hf k hk).symm.trans ((h k hk).trans (hg k hk)),fun h k hk=>(hf k hk).trans ((h k hk).trans (hg k hk).symm)⟩
theorem sign_eq{x:Int}(h:R5 x):F179 x=some (1 - x% 2*2)∧ -1≤1 - x% 2*2∧1 - x% 2*2≤1:=by
 unfold R5 at h;unfold F179;have h1:=yO x (show(2:Int)≠0 by decide);have h2:=yE x (show(0:Int) < 2 by decide);rw[jk (by decide),ob,vY h.1,qo (by omega) (by omega),ob,qo (by omega) (by omega),ob];exact⟨rfl,by omega,by omega⟩
theorem jm.pr{a:GDga}{n:Nat}(G:jm a n):2≤a.Prime∧a.Prime≤7:=G.p.range
theorem jm.uz{a:GDga}{n:Nat}(G:jm a n){i:Nat}(hi:i < n):∀k,n≤k→k < 8→(uE i).getD k 0=0:=fun k h1 h2=> by rw[uE_get h2,if_neg (by omega)]
theorem F157_3_tells{a:GDga}{n:Nat}(G:jm a n)(ht:By 512 a.Table.val){i j l:Nat}(hi:i < n)(hj:j < n)(hl:l < n)(x36 x45 x60:Ar .u8 8):qL (F157_3_B a i ⟨uE i⟩ j x36 x45 x60 l ()) (Al3 a n i j l):=by
 have n8:=G.n8;have hp:=G.pr;obtain⟨w1,a1,a2,a3⟩:=F177_eq hp ht (G.tm i j (by omega) (by omega)) (uE_mo (by omega) l);obtain⟨w2,b1,b2,b3⟩:=F177_eq hp ht (uE_mo (by omega) i) (G.tm j l (by omega) (by omega));have a1':F177 a ⟨arP a.Table.val (i*64+j*8) 8⟩ ⟨uE l⟩=some ⟨w1⟩:=a1;have b1':F177 a ⟨uE i⟩ ⟨arP a.Table.val (j*64+l*8) 8⟩=some ⟨w2⟩:=b1;unfold F157_3_B;rw[qD (show i < 8 by omega),ob,qD (show j < 8 by omega),ob,F69_eq (show l < 8 by omega),ob,a1',ob,qD (show l < 8 by omega),ob,b1',ob];refine(qL.last (zy (xC hp.2 a2) (xC hp.2 b2)) (if_pos rfl) (if_neg nt)).iff ((EqE.of a3 b3).trans ?_);exact iff_k (fun k _=> mul_cut n8 (fun k h1 h2=> G.tz i j k (by omega) (by omega) h1 h2) (G.uz hl) k) (fun k _=> mul_cut n8 (G.uz hi) (fun k h1 h2=> G.tz j l k (by omega) (by omega) h1 h2) k)
theorem F157_2_tells{a:GDga}{n:Nat}(G:jm a n)(hf:By 64 a.Diff.val)(ht:By 512 a.Table.val){i j:Nat}(hi:i < n)(hj:j < n):qL (F157_2_B a i ⟨uE i⟩ j ()) (Al2 a n i j):=by
 have n8:=G.n8;have hp:=G.pr;have hi8:i < 8:=by omega
 have hj8:j < 8:=by omega
 obtain⟨w1,a1,a2,a3⟩:=F178_eq hp hf (G.tm i j hi8 hj8);obtain⟨w2,b1,b2,b3⟩:=F177_eq hp ht (G.dm i hi8) (uE_mo (by omega) j);obtain⟨w3,c1,c2,c3⟩:=F177_eq hp ht (uE_mo (by omega) i) (G.dm j hj8);obtain⟨s1,s2,s3⟩:=sign_eq (G.r i hi8).1;obtain⟨w4,d1,d2⟩:=F70_eq hp b2 (xC hp.2 c2) (c:=1 - Dg a i% 2*2) (by omega);have d3:Mo a.Prime w4:=fun k hk=> by rw[d2 k hk]; exact⟨yO _ (by omega),yE _ (by omega)⟩
 have a1':F178 a ⟨arP a.Table.val (i*64+j*8) 8⟩=some ⟨w1⟩:=a1;have b1':F177 a ⟨arP a.Diff.val (i*8) 8⟩ ⟨uE j⟩=some ⟨w2⟩:=b1;have c1':F177 a ⟨uE i⟩ ⟨arP a.Diff.val (j*8) 8⟩=some ⟨w3⟩:=c1;have s1':F179 (a.Degrees.val.getD i 0)=some (1 - Dg a i% 2*2):=s1;unfold F157_2_B;rw[F69_eq hj8,ob,qD hi8,ob,qD hj8,ob,a1',ob,b1',ob,c1',ob,s1',ob,d1,ob];refine qL.iff ((zy (xC hp.2 a2) (xC hp.2 d3)).and (Q:=∀l,l < n→Al3 a n i j l) (fun _=>?_) (if_neg nt)) ?_
 ·rw[if_pos rfl]
  exact(zi n G.s (by omega) (Al3 a n i j) (fun l hl _=> F157_3_tells G ht hi hj hl _ _ _) rfl).round rfl rfl
 ·refine and_congr ((EqE.of a3 d2).trans (iff_k (fun k _=> dif_cut n8 (fun k h1 h2=> G.tz i j k hi8 hj8 h1 h2) k) (fun k hk=>?_))) yP
  rw[b3 k hk,c3 k hk,mul_cut n8 (fun k h1 h2=> G.dz i k hi8 h1 h2) (G.uz hj),mul_cut n8 (G.uz hi) (fun k h1 h2=> G.dz j k hj8 h1 h2)];rfl
theorem F157_1_tells{a:GDga}{n:Nat}(G:jm a n)(hf:By 64 a.Diff.val)(ht:By 512 a.Table.val){i:Nat}(hi:i < n):qL (F157_1_B a i ()) (Al1 a n i):=by
 have n8:=G.n8;have n1:=G.n1;have hp:=G.pr;have hi8:i < 8:=by omega
 obtain⟨w1,a1,a2,a3⟩:=F177_eq hp ht (uE_mo (p:=a.Prime) (by omega) 0) (uE_mo (by omega) i);obtain⟨w2,b1,b2,b3⟩:=F177_eq hp ht (uE_mo (p:=a.Prime) (by omega) i) (uE_mo (by omega) 0);obtain⟨w3,c1,c2,c3⟩:=F178_eq hp hf (G.dm i hi8);have c1':F178 a ⟨arP a.Diff.val (i*8) 8⟩=some ⟨w3⟩:=c1;have e0:F69 a 0=some ⟨uE 0⟩:=F69_eq (i:=0) (by omega);unfold F157_1_B;rw[F69_eq hi8,ob,e0,ob,a1,ob];refine qL.iff ((zy (xC hp.2 a2) (xC hp.2 (uE_mo (p:=a.Prime) (by omega) i))).and (Q:=EqE (Tb a i 0) (uE i)∧(∀k,k < 8→difF a n (Df a i) k=0)∧∀j,j < n→Al2 a n i j) (fun _=>?_) (if_neg nt)) (and_congr ?_ yP)
 ·rw[if_pos rfl,b1,ob]
  refine qL.iff ((zy (xC hp.2 b2) (xC hp.2 (uE_mo (p:=a.Prime) (by omega) i))).and (Q:=(∀k,k < 8→difF a n (Df a i) k=0)∧∀j,j < n→Al2 a n i j) (fun _=>?_) (if_neg nt)) (and_congr ?_ yP)
  ·rw[if_pos rfl,qD hi8,ob,c1',ob]
   refine qL.iff ((zy (xC hp.2 c2) (by_nil 8)).and (Q:=∀j,j < n→Al2 a n i j) (fun _=>?_) (if_neg nt)) (and_congr ?_ yP)
   ·rw[if_pos rfl]
    exact(zi n G.s (by omega) (Al2 a n i) (fun j hj _=> F157_2_tells G hf ht hi hj) rfl).round rfl rfl
   ·exact(EqE.of (g:=fun _=> 0) c3 (fun k _=> by simp)).trans (iff_k (fun k _=> dif_cut n8 (fun k h1 h2=> G.dz i k hi8 h1 h2) k) (fun k _=> rfl))
  ·refine(EqE.of (g:=fun k=>(uE i).getD k 0) b3 (fun k _=> rfl)).trans (iff_k (g:=fun k=>(uE i).getD k 0) (f':=fun k=>(Tb a i 0).getD k 0) (fun k hk=>?_) (fun k _=> rfl))
   rw[sum_units hi8 (by omega)];have:=G.tm i 0 hi8 (by omega) k hk;exact yC this.1 this.2
 ·refine(EqE.of (g:=fun k=>(uE i).getD k 0) a3 (fun k _=> rfl)).trans (iff_k (g:=fun k=>(uE i).getD k 0) (f':=fun k=>(Tb a 0 i).getD k 0) (fun k hk=>?_) (fun k _=> rfl))
  rw[sum_units (by omega) hi8];have:=G.tm 0 i (by omega) hi8 k hk;exact yC this.1 this.2
def AlG(a:GDga)(n:Nat):Prop:=∀i,i < n→Al1 a n i
theorem F157_tells{a:GDga}(hf:By 64 a.Diff.val)(ht:By 512 a.Table.val):qX (F157 a) (FormI a∧AlG a a.Size.toNat):=by
 unfold F157;refine(F176_tells hf ht).andB (fun h=>?_) (if_neg nt);obtain⟨n,G⟩:=h.good hf ht;have e:a.Size.toNat=n:=by have:=G.s; omega
 rw[if_pos rfl,e];exact(zi n G.s (by have:=G.n8; omega) (Al1 a n) (fun i hi _=> F157_1_tells G hf ht hi) rfl).end_ rfl rfl
theorem F180_3_tells{a:GDga}{n:Nat}(G:jm a n)(ht:By 512 a.Table.val){i j l:Nat}(hi:i < n)(hj:j < n)(hl:l < n)(x15:Int)(x40:Ar .u8 8):qL (F180_3_B a i ⟨uE i⟩ x15 j x40 l ()) (Al3 a n i j l):=by
 have n8:=G.n8;have hp:=G.pr;obtain⟨w1,a1,a2,a3⟩:=F199_eq hp ht G.s n8 (G.tm i j (by omega) (by omega)) (uE_mo (by omega) l);obtain⟨w2,b1,b2,b3⟩:=F199_eq hp ht G.s n8 (uE_mo (by omega) i) (G.tm j l (by omega) (by omega));have a1':F199 a ⟨arP a.Table.val (i*64+j*8) 8⟩ ⟨uE l⟩=some ⟨w1⟩:=a1;have b1':F199 a ⟨uE i⟩ ⟨arP a.Table.val (j*64+l*8) 8⟩=some ⟨w2⟩:=b1;unfold F180_3_B;rw[qD (show i < 8 by omega),ob,qD (show j < 8 by omega),ob,F104_eq (show l < 8 by omega),ob,a1',ob,qD (show l < 8 by omega),ob,b1',ob];exact(qL.last (zy (xC hp.2 a2) (xC hp.2 b2)) (if_pos rfl) (if_neg nt)).iff (EqE.of a3 b3)
theorem F180_2_tells{a:GDga}{n:Nat}(G:jm a n)(hf:By 64 a.Diff.val)(ht:By 512 a.Table.val){i j:Nat}(hi:i < n)(hj:j < n):qL (F180_2_B a i ⟨uE i⟩ (sg a i) j ()) (Al2 a n i j):=by
 have n8:=G.n8;have hp:=G.pr;have hi8:i < 8:=by omega
 have hj8:j < 8:=by omega
 obtain⟨w1,a1,a2,a3⟩:=F198_eq hp hf G.s n8 (G.tm i j hi8 hj8);obtain⟨w2,b1,b2,b3⟩:=F199_eq hp ht G.s n8 (G.dm i hi8) (uE_mo (by omega) j);obtain⟨w3,c1,c2,c3⟩:=F199_eq hp ht G.s n8 (uE_mo (by omega) i) (G.dm j hj8);obtain⟨s1,s2,s3⟩:=sign_eq (G.r i hi8).1;obtain⟨w4,d1,d2⟩:=F105_eq hp b2 (xC hp.2 c2) (c:=sg a i) (by unfold sg; omega);have d3:Mo a.Prime w4:=fun k hk=> by rw[d2 k hk]; exact⟨yO _ (by omega),yE _ (by omega)⟩
 have a1':F198 a ⟨arP a.Table.val (i*64+j*8) 8⟩=some ⟨w1⟩:=a1;have b1':F199 a ⟨arP a.Diff.val (i*8) 8⟩ ⟨uE j⟩=some ⟨w2⟩:=b1;have c1':F199 a ⟨uE i⟩ ⟨arP a.Diff.val (j*8) 8⟩=some ⟨w3⟩:=c1;unfold F180_2_B;rw[qD hi8,ob,F104_eq hj8,ob,b1',ob,qD hj8,ob,a1',ob,c1',ob,d1,ob];refine qL.iff ((zy (xC hp.2 a2) (xC hp.2 d3)).and (Q:=∀l,l < n→Al3 a n i j l) (fun _=>?_) (if_neg nt)) ?_
 ·rw[if_pos rfl]
  exact(zi n G.s (by omega) (Al3 a n i j) (fun l hl _=> F180_3_tells G ht hi hj hl _ _) rfl).round rfl rfl
 ·refine and_congr ((EqE.of a3 d2).trans (iff_k (fun k _=> rfl) (fun k hk=>?_))) yP
  rw[b3 k hk,c3 k hk]
theorem F180_1_tells{a:GDga}{n:Nat}(G:jm a n)(hf:By 64 a.Diff.val)(ht:By 512 a.Table.val){i:Nat}(hi:i < n):qL (F180_1_B a i ()) (Al1 a n i):=by
 have n8:=G.n8;have n1:=G.n1;have hp:=G.pr;have hi8:i < 8:=by omega
 have d5:=(G.r i hi8).1;unfold R5 at d5;have d5':0≤a.Degrees.val.getD i 0:=d5.1;have m1:=yO (a.Degrees.val.getD i 0) (show(2:Int)≠0 by decide);have m2:=yE (a.Degrees.val.getD i 0) (show(0:Int) < 2 by decide);obtain⟨w3,c1,c2,c3⟩:=F198_eq hp hf G.s n8 (G.dm i hi8);have c1':F198 a ⟨arP a.Diff.val (i*8) 8⟩=some ⟨w3⟩:=c1;have t0:By 8 (Tb a 0 i):=xx ht (by omega);have ti:By 8 (Tb a i 0):=xx ht (by omega);have ub:=xC hp.2 (uE_mo (p:=a.Prime) (by omega) i);have q0:=zy t0 ub;have q1:=zy ti ub;unfold Tb at q0 q1;rw[yS,vH]at q0;rw[yS,yT]at q1;have es:(1 - 2*(a.Degrees.val.getD i 0% 2))=sg a i:=by unfold sg Dg; omega
 unfold F180_1_B;rw[F104_eq hi8,ob,qD hi8,ob,jk (by decide),ob,vY d5',qo (by omega) (by omega),ob,qo (by omega) (by omega),ob,es];refine qL.iff (q0.and (Q:=EqE (Tb a i 0) (uE i)∧(∀k,k < 8→difF a n (Df a i) k=0)∧∀j,j < n→Al2 a n i j) (fun _=>?_) (if_neg nt)) ?_
 ·rw[if_pos rfl]
  refine qL.iff (q1.and (Q:=(∀k,k < 8→difF a n (Df a i) k=0)∧∀j,j < n→Al2 a n i j) (fun _=>?_) (if_neg nt)) ?_
  ·rw[if_pos rfl,c1',ob]
   refine qL.iff ((zy (xC hp.2 c2) (by_nil 8)).and (Q:=∀j,j < n→Al2 a n i j) (fun _=>?_) (if_neg nt)) (and_congr ?_ yP)
   ·rw[if_pos rfl]
    exact(zi n G.s (by omega) (Al2 a n i) (fun j hj _=> F180_2_tells G hf ht hi hj) rfl).round rfl rfl
   ·exact EqE.of (g:=fun _=> 0) c3 (fun k _=> by simp)
  ·unfold Tb; rw[yS,yT]
 ·unfold Al1 Tb; rw[yS,vH]
theorem F180_tells{a:GDga}(hf:By 64 a.Diff.val)(ht:By 512 a.Table.val):qX (F180 a) (FormI a∧AlG a a.Size.toNat):=by
 unfold F180;refine((F197_tells hf ht).iff form_iff.symm).andB (fun h=>?_) (if_neg nt);obtain⟨n,G⟩:=h.good hf ht;have e:a.Size.toNat=n:=by have:=G.s; omega
 rw[if_pos rfl,e];exact(zi n G.s (by have:=G.n8; omega) (Al1 a n) (fun i hi _=> F180_1_tells G hf ht hi) rfl).end_ rfl rfl
theorem dga_same{a:GDga}(h:LongG a):∃b,F157 a=some b∧F180 a=some b∧(b=true→∃n,jm a n∧AlG a n):=by
 have hf:=by_of h.f;have ht:=by_of h.t;obtain⟨b,b1,b2,b3⟩:=(F157_tells hf ht).same (F180_tells hf ht);refine⟨b,b1,b2,fun e=>?_⟩;obtain⟨f,g⟩:=b3.1 e;obtain⟨n,G⟩:=f.good hf ht;have e:a.Size.toNat=n:=by have:=G.s; omega
 rw[e]at g;exact⟨n,G,g⟩
def zq(l:List Nat):List Int:=l.map fun(i:Nat)=>(i:Int)
def memN(a:GDga)(n:Nat)(d:Int):List Nat:=(List.range n).filter fun i=> decide (Dg a i=d)
theorem jf{a:GDga}{n i:Nat}{d:Int}:i∈memN a n d↔i < n∧Dg a i=d:=by simp[memN]
theorem zP(a:GDga)(n:Nat)(d:Int):(memN a n d).length≤n:=by
 have:=List.length_filter_le (fun i=> decide (Dg a i=d)) (List.range n);simpa[memN]using this
theorem memN_succ(a:GDga)(n:Nat)(d:Int):memN a (n+1) d=if Dg a n=d then memN a n d++[n]else memN a n d:=by
 unfold memN;rw[yY,List.filter_append];by_cases h:Dg a n=d
 ·rw[if_pos h]; simp[h]
 ·rw[if_neg h]; simp[h]
theorem qY(l:List Nat):(zq l).length=l.length:=by simp[zq]
theorem jW{l:List Nat}{k:Nat}(hk:k < l.length):getI (zq l) (k:Int)=some (l[k]:Int):=by
 rw[qn (by rw[qY]; exact hk)]; simp[zq]
theorem F72_eq{a:GDga}{n:Nat}(G:jm a n)(d:Int):F72 a d=some (zq (memN a n d)):=by
 have n8:=G.n8;obtain⟨w,h1,h2⟩:=qt (B:=F72_1_B a d) (D:=F72_1_D a d) n G.s (by omega) (fun i o=> o=zq (memN a i d)) (fun w=> w=zq (memN a n d)) (s:=[]) rfl (fun i o hi ho=> by
  subst ho;have hl:=zP a i d;refine .inl ⟨zq (memN a (i+1) d),?_,rfl⟩;unfold F72_1_B;rw[qD (show i < 8 by omega),ob,memN_succ];by_cases c:Dg a i=d
  ·rw[if_pos c,if_pos (show a.Degrees.val.getD i 0=d from c),qN (by rw[qY]; simp; omega) (by rw[qY]; simp; omega),ob]
   simp[zq]
  ·rw[if_neg c,if_neg (show¬a.Degrees.val.getD i 0=d from c)]) (fun o ho=>⟨o,rfl,ho⟩)
 unfold F72;rw[h1,ob,h2]
theorem F106_eq{a:GDga}{n:Nat}(G:jm a n)(d:Int):F106 a d=some (zq (memN a n d)):=by
 have n8:=G.n8;obtain⟨w,h1,h2⟩:=qt (B:=F106_1_B a d) (D:=F106_1_D a d) n G.s (by omega) (fun i o=> o=zq (memN a i d)) (fun w=> w=zq (memN a n d)) (s:=[]) rfl (fun i o hi ho=> by
  subst ho;have hl:=zP a i d;refine .inl ⟨zq (memN a (i+1) d),?_,rfl⟩;unfold F106_1_B;rw[qD (show i < 8 by omega),ob,memN_succ];by_cases c:Dg a i=d
  ·rw[if_pos c,if_pos (show a.Degrees.val.getD i 0=d from c),qN (by rw[qY]; simp; omega) (by rw[qY]; simp; omega),ob]
   simp[zq]
  ·rw[if_neg c,if_neg (show¬a.Degrees.val.getD i 0=d from c)]) (fun o ho=>⟨o,rfl,ho⟩)
 unfold F106;rw[h1,ob,h2]
def vecE(a:GDga)(n:Nat)(d:Int)(u:List Int):List Int:=(memN a n d).map fun i=> u.getD i 0
theorem vecE_len (a:GDga) (n:Nat) (d:Int) (u:List Int):(vecE a n d u).length=(memN a n d).length:=by simp[vecE]
theorem F107_eq{a:GDga}{n:Nat}(G:jm a n){u:List Int}(hu:By 8 u)(d:Int):F107 a d ⟨u⟩=some (vecE a n d u):=by
 have n8:=G.n8;have hl:=zP a n d;unfold F107;rw[F106_eq G d,ob];rw[zQ (l:=zq (memN a n d)) (B:=F107_1_B ⟨u⟩ (zq (memN a n d))) (D:=F107_1_D ⟨u⟩ (zq (memN a n d))) (s0:=[]) (fun x=> u.getD x.toNat 0) (by rw[qY]; omega) (fun k hk s hs=> by
  have hk':k < (memN a n d).length:=by rwa[qY]at hk
  have hm:=jf.1 (wF hk');have hb:=hu (memN a n d)[k] (by omega);simp only[wU]at hs;unfold F107_1_B;rw[jW hk',ob,qD (show(memN a n d)[k] < 8 by omega),ob];simp only;rw[qo (by omega) (by omega),ob,qN (by simp; omega) (by simp; omega),ob];simp[zq]) (fun _ _=> rfl),ob]
 simp[zq,vecE]
theorem F257_eq{a:GDga}{n:Nat}(G:jm a n){u:List Int}(hu:By 8 u)(d:Int):F257 a d ⟨u⟩=some (vecE a n d u):=by
 have n8:=G.n8;have hl:=zP a n d;unfold F257;rw[F72_eq G d,ob];rw[zQ (l:=zq (memN a n d)) (B:=F257_1_B ⟨u⟩ (zq (memN a n d))) (D:=F257_1_D ⟨u⟩ (zq (memN a n d))) (s0:=[]) (fun x=> u.getD x.toNat 0) (by rw[qY]; omega) (fun k hk s hs=> by
  have hk':k < (memN a n d).length:=by rwa[qY]at hk
  have hm:=jf.1 (wF hk');have hb:=hu (memN a n d)[k] (by omega);simp only[wU]at hs;unfold F257_1_B;rw[jW hk',ob,qD (show(memN a n d)[k] < 8 by omega),ob];simp only;rw[qo (by omega) (by omega),ob,qN (by simp; omega) (by simp; omega),ob];simp[zq]) (fun _ _=> rfl),ob]
 simp[zq,vecE]
theorem elem_same{a:GDga}{n:Nat}(G:jm a n){d:Int}{v:List Int}(hv:qW a.Prime (memN a n d).length v):∃w,F256 a d v=some ⟨w⟩∧F290 a d v=some ⟨w⟩∧Mo a.Prime w∧∀k,n≤k→k < 8→w.getD k 0=0:=by
 have n8:=G.n8;have hp:=G.p.range;have hl:=zP a n d;have hvl:=hv.len;obtain⟨w,h1,h2⟩:=qt (B:=F256_1_B v (zq (memN a n d))) (D:=F256_1_D v (zq (memN a n d))) (hi:=((zq (memN a n d)).length:Int)) (memN a n d).length (by rw[qY]) (by omega) (fun i o=> Mo a.Prime o∧∀k,n≤k→k < 8→o.getD k 0=0) (fun w=> Mo a.Prime w∧∀k,n≤k→k < 8→w.getD k 0=0) (s:=[]) ⟨.nil (by omega),fun k _ _=> by simp⟩ (fun i o hi ho=> by
  have hm:=jf.1 (wF hi);have hr:=hv.rng i hi;have hx:nth v i=v[i]'(by omega):=by simp[nth,show i < v.length by omega]
  refine .inl ⟨arW 8 o (memN a n d)[i] (nth v i),?_,fun k hk=>?_,fun k h1 h2=>?_⟩
  ·unfold F256_1_B
   rw[jW hi,ob,qn (show i < v.length by omega),ob,qD (show(memN a n d)[i] < 8 by omega),ob,←hx,wrap_u8 hr.1 (by omega),ob]
  ·rw[arW_get hk]; split
   ·exact hr
   ·exact ho.1 k hk
  ·rw[arW_get h2,if_neg (by omega)]; exact ho.2 k h1 h2) (fun o ho=>⟨o,rfl,ho⟩)
 refine⟨w,?_,?_,h2⟩
 ·unfold F256; rw[F72_eq G d,ob,h1,ob]
 ·unfold F290; rw[F106_eq G d,ob]
  have e:F290_1_B v (zq (memN a n d))=F256_1_B v (zq (memN a n d)):=rfl;have e2:F290_1_D v (zq (memN a n d))=F256_1_D v (zq (memN a n d)):=rfl;rw[e,e2,h1,ob]
def tp(a:GDga)(n:Nat):Nat:=(Dg a (n - 1)).toNat
def dimX(a:GDga)(n d:Nat):Int:=((memN a n (d:Int)).length:Int)
def levX(a:GDga)(n d:Nat):List Int:=(memN a n (d:Int)).map (Lv a)
def rowX(a:GDga)(n d:Nat):List (List Int):=(memN a n ((d+1:Nat):Int)).map fun i=> vecE a n (d:Int) (Df a i)
def cX(a:GDga)(n:Nat):qh:=⟨a.Prime,(List.range (tp a n+1)).map (dimX a n),(List.range (tp a n)).map (rowX a n)⟩
def fX(a:GDga)(n:Nat):qc:=⟨cX a n,(List.range (tp a n+1)).map (levX a n)⟩
theorem jm.top{a:GDga}{n:Nat}(G:jm a n):Dg a (n - 1)=(tp a n:Int)∧tp a n≤5:=by
 have:=G.n8;have:=(G.r (n - 1) (by omega)).1;unfold R5 at this;unfold tp;omega
theorem F65_eq{a:GDga}{n:Nat}(G:jm a n)(hf:By 64 a.Diff.val):F65 a=some (fX a n):=by
 have n8:=G.n8;have n1:=G.n1;obtain⟨t1,t2⟩:=G.top;have hs:=G.s;obtain⟨w,h1,h2⟩:=zV (S:=F65_1_S a) (fun s=>(tp a n+1 - s.2.2.2.2).toNat) (fun s=>∃d:Nat,d≤tp a n+1∧s=((List.range d).map (dimX a n),(List.range (d - 1)).map (rowX a n),(List.range d).map (levX a n),a.Prime,(d:Int))) (fun w=> w=((cX a n).Dims,(cX a n).Maps,(fX a n).Levels,a.Prime)) (s:=([],[],[],a.Prime,0)) ⟨0,by omega,rfl⟩ (by
  rintro s ⟨d,hd,rfl⟩;unfold F65_1_S;simp only;rw[qo (by omega) (by omega),ob,show a.Size - 1=((n - 1:Nat):Int) by omega,qD (show n - 1 < 8 by omega),ob];by_cases c:(d:Int)≤a.Degrees.val.getD (n - 1) 0
  ·have c':(d:Int)≤Dg a (n - 1):=c
   have hl:=zP a n (d:Int);have hm:∀d':Int,(memN a n d').length≤8:=fun d'=> by have:=zP a n d'; omega
   obtain⟨w,g1,g2⟩:=qt (B:=F65_2_B a ((List.range d).map (dimX a n)) ((List.range (d - 1)).map (rowX a n)) ((List.range d).map (levX a n)) a.Prime d (zq (memN a n d))) (D:=F65_2_D a ((List.range d).map (dimX a n)) ((List.range (d - 1)).map (rowX a n)) ((List.range d).map (levX a n)) a.Prime d (zq (memN a n d))) (hi:=((zq (memN a n (d:Int))).length:Int)) (memN a n (d:Int)).length (by rw[qY]) (by omega)
    (fun i s=> s=(((memN a n (d:Int)).take i).map (Lv a),((memN a n (d:Int)).take i).map fun i=> vecE a n ((d:Int) - 1) (Df a i))) (fun w=> w=(levX a n d,(memN a n (d:Int)).map fun i=> vecE a n ((d:Int) - 1) (Df a i))) (s:=([],[])) (by simp) (by
    rintro i s hi rfl;have hmm:=jf.1 (wF hi);have hv:F107 a ((d:Int) - 1) ⟨arP a.Diff.val ((memN a n (d:Int))[i]*8) 8⟩=some (vecE a n ((d:Int) - 1) (Df a (memN a n (d:Int))[i])):=F107_eq G (xx hf (by omega)) _;refine .inl ⟨_,?_,rfl⟩;unfold F65_2_B;simp only;rw[jW hi,ob,qD (show(memN a n (d:Int))[i] < 8 by omega),ob,qN (by simp; omega) (by simp; omega),ob,qo (by omega) (by omega),ob,hv,ob,qN (by simp; omega) (by simp; omega),ob,List.take_succ_eq_append_getElem hi,vT,vT];rfl) (by
    rintro s rfl;exact⟨_,rfl,by rw[wZ (wG _)]; rfl⟩)
   rw[if_pos c,F106_eq G,ob,g1,ob,g2];simp only;rw[qN (by simp; omega) (by simp; omega),ob,qN (by simp; omega) (by simp; omega),ob];left;by_cases c0:0 < (d:Int)
   ·obtain⟨e,rfl⟩:∃e,d=e+1:=⟨d - 1,by omega⟩
    rw[if_pos c0,qN (by simp; omega) (by simp; omega),ob,qo (by omega) (by omega),ob];refine⟨_,rfl,⟨e+2,by omega,?_⟩,by simp only; omega⟩;rw[show e+2 - 1=e+1 by omega,show e+1 - 1=e by omega,yY (n:=e+1),vT,vT,yY (n:=e),vT (f:=rowX a n)];simp only[vA,uN,qY];refine Prod.ext rfl (Prod.ext ?_ (Prod.ext rfl (Prod.ext rfl (by simp only; omega))));simp only;unfold rowX;rw[show((e+1:Nat):Int) - 1=(e:Int) by omega]
   ·have hd0:d=0:=by omega
    subst hd0;rw[if_neg c0,qo (by omega) (by omega),ob];refine⟨_,rfl,⟨1,by omega,?_⟩,by simp only; omega⟩;simp only[qY,List.range_zero,uN,vN];rfl
  ·have c':¬(d:Int)≤Dg a (n - 1):=c
   rw[if_neg c];right;refine⟨_,rfl,?_⟩;obtain rfl:d=tp a n+1:=by omega
   rfl)
 unfold F65;rw[h1,ob,h2];rfl
theorem map_range_getD{α:Type}(f:Nat→α)(d:α){m k:Nat}(h:k < m):((List.range m).map f).getD k d=f k:=by
 rw[List.getD_eq_getElem?_getD,List.getElem?_map,List.getElem?_range h]; rfl
theorem map_getD{α β:Type}(f:α→β)(d:β){l:List α}{k:Nat}(h:k < l.length):(l.map f).getD k d=f l[k]:=by
 rw[List.getD_eq_getElem?_getD,List.getElem?_map,List.getElem?_eq_getElem h]; rfl
theorem rowX_at{a:GDga}{n:Nat}{k:Nat}(hk:k < tp a n):(cX a n).Maps.getD k []=rowX a n k:=map_range_getD _ _ hk
theorem rowX_row{a:GDga}{n:Nat}{k i:Nat}(hi:i < (memN a n ((k+1:Nat):Int)).length):(rowX a n k).getD i []=vecE a n (k:Int) (Df a (memN a n ((k+1:Nat):Int))[i]):=map_getD _ _ hi
theorem vecE_at{a:GDga}{n:Nat}{d:Int}{u:List Int}{j:Nat}(hj:j < (memN a n d).length):(vecE a n d u).getD j 0=u.getD (memN a n d)[j] 0:=map_getD _ _ hj
theorem xm{a:GDga}{n:Nat}{d:Nat}(hd:d < tp a n+1):(cX a n).Dims.getD d 0=dimX a n d:=map_range_getD _ _ hd
theorem dims_ok{a:GDga}{n:Nat}(G:jm a n):1≤(cX a n).Dims.length∧(cX a n).Dims.length=tp a n+1∧∀d∈(cX a n).Dims,0≤d∧d≤8:=by
 have n8:=G.n8;refine⟨by simp[cX],by simp[cX],fun d hd=>?_⟩;obtain⟨k,_,rfl⟩:=vI.1 hd;have:=zP a n (k:Int);unfold dimX; omega
theorem zX_num{a:GDga}{n:Nat}(G:jm a n){k i j:Nat}(hin:InT (zM (cX a n).Dims) k i j):zS (zM (cX a n).Dims) k i j=0∧k < tp a n∧i < (memN a n ((k+1:Nat):Int)).length∧j < (memN a n (k:Int)).length:=by
 obtain⟨h1,h2,h3⟩:=hin;have hk:k < (cX a n).Dims.length - 1:=by simpa[zM]using h1
 have hk':k < tp a n:=by rw[(dims_ok G).2.1]at hk; omega
 rw[zM_at hk]at h2 h3;unfold zS;rw[zM_at hk];unfold zT at h2 h3 ⊢;rw[uC,xm (by omega)]at h2;have e:(List.replicate ((cX a n).Dims.getD (k+1) 0).toNat (List.replicate ((cX a n).Dims.getD k 0).toNat (0:Int))).getD i []=List.replicate ((cX a n).Dims.getD k 0).toNat (0:Int):=by
  rw[List.getD_eq_getElem?_getD,List.getElem?_replicate,if_pos (by rw[xm (by omega)]; exact h2)]; rfl
 rw[e]at h3 ⊢;rw[uC,xm (by omega)]at h3;unfold dimX at h2 h3;refine⟨?_,hk',by omega,by omega⟩;rw[List.getD_eq_getElem?_getD,List.getElem?_replicate];split <;> rfl
theorem zX_in{a:GDga}{n:Nat}(G:jm a n){k i j:Nat}(hk:k < tp a n)(hi:i < (memN a n ((k+1:Nat):Int)).length)(hj:j < (memN a n (k:Int)).length):InT (zM (cX a n).Dims) k i j:=by
 have hk':k < (cX a n).Dims.length - 1:=by rw[(dims_ok G).2.1]; omega
 unfold InT;rw[zM_at hk'];have e:(zT (cX a n).Dims k).getD i []=List.replicate ((cX a n).Dims.getD k 0).toNat (0:Int):=by
  unfold zT;rw[List.getD_eq_getElem?_getD,List.getElem?_replicate,if_pos (by rw[xm (by omega)]; unfold dimX; omega)]; rfl
 rw[e];refine⟨by simpa[zM]using hk',?_,?_⟩
 ·unfold zT; rw[uC,xm (by omega)]; unfold dimX; omega
 ·rw[uC,xm (by omega)]; unfold dimX; omega
theorem zX_shp{a:GDga}{n:Nat}(G:jm a n):Shp (zM (cX a n).Dims) (cX a n).Maps:=by
 obtain⟨d1,d2,d3⟩:=dims_ok G;have hml:(cX a n).Maps.length=tp a n:=by simp[cX]
 refine⟨by rw[hml]; simp[zM,d2],fun k hk=>?_,fun k hk i hi=>?_⟩
 ·rw[hml]at hk
  rw[zM_at (by omega),rowX_at hk];unfold zT rowX;rw[uC,yA,xm (by omega)]; unfold dimX; omega
 ·rw[hml]at hk
  rw[rowX_at hk]at hi ⊢;have hi':i < (memN a n ((k+1:Nat):Int)).length:=by simpa[rowX]using hi
  rw[zM_at (by omega),rowX_row hi',vecE_len];unfold zT;rw[List.getD_eq_getElem?_getD,List.getElem?_replicate,if_pos (by rw[xm (by omega)]; unfold dimX; omega)];show(List.replicate _ _).length=_;rw[uC,xm (by omega)]; unfold dimX; omega
theorem numX{a:GDga}{n:Nat}(G:jm a n){k i j:Nat}(hk:k < tp a n)(hi:i < (memN a n ((k+1:Nat):Int)).length)(hj:j < (memN a n (k:Int)).length):zS (cX a n).Maps k i j=a.Diff.val.getD ((memN a n ((k+1:Nat):Int))[i]*8+(memN a n (k:Int))[j]) 0:=by
 have n8:=G.n8;have:=jf.1 (wF hj);unfold zS;rw[rowX_at hk,rowX_row hi,vecE_at hj];unfold Df;rw[arP_get (by omega)]
theorem numX_rng{a:GDga}{n:Nat}(G:jm a n){k i j:Nat}(hk:k < tp a n)(hi:i < (memN a n ((k+1:Nat):Int)).length)(hj:j < (memN a n (k:Int)).length):0≤zS (cX a n).Maps k i j∧zS (cX a n).Maps k i j < a.Prime:=by
 have n8:=G.n8;have h1:=jf.1 (wF hi);have h2:=jf.1 (wF hj);have:=G.dm _ (show(memN a n ((k+1:Nat):Int))[i] < 8 by omega) _ (show(memN a n (k:Int))[j] < 8 by omega);unfold zS;rw[rowX_at hk,rowX_row hi,vecE_at hj];exact this
theorem F36_5_eq{a:GDga}{n:Nat}(G:jm a n){k i:Nat}(hk:k < tp a n)(hi:i < (memN a n ((k+1:Nat):Int)).length){s:T3s}(hs:AT (q1 a.Prime) (zM (cX a n).Dims) (cX a n).Maps (fun k' i' _=> k' < k∨(k'=k∧i' < i)) s):
  ∃s',forR 0 ((zq (memN a n (k:Int))).length:Int) (F36_5_B a a.Prime ((k:Int)+1) i ((memN a n ((k+1:Nat):Int))[i]:Nat) (zq (memN a n (k:Int)))) (fun _ s=> some s) s=some s'∧AT (q1 a.Prime) (zM (cX a n).Dims) (cX a n).Maps (fun k' i' _=> k' < k∨(k'=k∧i' < i+1)) s':=by
 have n8:=G.n8;have hp:=G.p.range;have hl:=zP a n (k:Int);have ht:=G.top;have hm:=jf.1 (wF hi);refine qt (B:=F36_5_B a a.Prime ((k:Int)+1) i ((memN a n ((k+1:Nat):Int))[i]:Nat) (zq (memN a n (k:Int)))) (D:=fun _ s=> some s) (memN a n (k:Int)).length (by rw[qY]) (by omega) (fun j s=> AT (q1 a.Prime) (zM (cX a n).Dims) (cX a n).Maps (fun k' i' j'=>(k' < k∨(k'=k∧i' < i))∨(k'=k∧i'=i∧j' < j)) s) (fun s'=> AT (q1 a.Prime) (zM (cX a n).Dims) (cX a n).Maps (fun k' i' _=> k' < k∨(k'=k∧i' < i+1)) s') (s:=s) (hs.imp fun k' i' j' _=> by omega) (fun j s hj hA=>?_) (fun s hA=>⟨s,rfl,hA.imp fun k' i' j' hin=> by
  have:=(zX_num G hin).2.2.2;constructor
  ·intro q; omega
  ·intro q
   by_cases e:k'=k∧i'=i
   ·obtain⟨rfl,rfl⟩:=e; exact .inr ⟨rfl,rfl,this⟩
   ·omega⟩)
 have hmj:=jf.1 (wF hj);have hin:=zX_in G hk hi hj;have hz:=zX_num G hin;have hnD:¬((k < k∨(k=k∧i < i))∨(k=k∧i=i∧j < j)):=by omega
 have h0:=(hA.2 k i j hin).2 hnD;rw[hz.1]at h0;have hv:=numX_rng G hk hi hj;have hvn:=numX G hk hi hj;left;refine⟨put3 s k i j (q1 a.Prime (zS s k i j) (zS (cX a n).Maps k i j)),?_,hA.step hin hnD fun k' i' j'=> by omega⟩;unfold F36_5_B;rw[jW hj,ob,qD (show(memN a n ((k+1:Nat):Int))[i] < 8 by omega),ob,qD (show(memN a n (k:Int))[j] < 8 by omega),ob,←hvn,qo (by omega) (by omega),ob,F75_eq hp (hA.1.inT hin) (by omega) (by rw[h0]; omega) hv,ob]
theorem F36_4_eq{a:GDga}{n:Nat}(G:jm a n){k:Nat}(hk:k < tp a n){s:T3s}(hs:AT (q1 a.Prime) (zM (cX a n).Dims) (cX a n).Maps (fun k' _ _=> k' < k) s):
  ∃s',forR 0 ((zq (memN a n ((k+1:Nat):Int))).length:Int) (F36_4_B a a.Prime ((k:Int)+1) (zq (memN a n ((k+1:Nat):Int)))) (fun _ s=> some s) s=some s'∧AT (q1 a.Prime) (zM (cX a n).Dims) (cX a n).Maps (fun k' _ _=> k' < k+1) s':=by
 have n8:=G.n8;have ht:=G.top;have hl:=zP a n ((k+1:Nat):Int);refine qt (B:=F36_4_B a a.Prime ((k:Int)+1) (zq (memN a n ((k+1:Nat):Int)))) (D:=fun _ s=> some s) (memN a n ((k+1:Nat):Int)).length (by rw[qY]) (by omega) (fun i s=> AT (q1 a.Prime) (zM (cX a n).Dims) (cX a n).Maps (fun k' i' _=> k' < k∨(k'=k∧i' < i)) s) (fun s'=> AT (q1 a.Prime) (zM (cX a n).Dims) (cX a n).Maps (fun k' _ _=> k' < k+1) s') (s:=s) (hs.imp fun k' i' j' _=> by omega) (fun i s hi hA=>?_) (fun s hA=>⟨s,rfl,hA.imp fun k' i' j' hin=> by
  have:=(zX_num G hin).2.2.1;constructor
  ·intro q; omega
  ·intro q
   by_cases e:k'=k
   ·subst e; exact .inr ⟨rfl,this⟩
   ·omega⟩)
 obtain⟨s',g1,g2⟩:=F36_5_eq G hk hi hA;left;refine⟨s',?_,g2⟩;unfold F36_4_B;rw[jW hi,ob,qo (by omega) (by omega),ob,show(k:Int)+1 - 1=(k:Int) by omega,F72_eq G,ob,g1,ob]
theorem F36_eq{a:GDga}{n:Nat}(G:jm a n):F36 a=some (fX a n):=by
 have n8:=G.n8;have n1:=G.n1;obtain⟨t1,t2⟩:=G.top;have hs:=G.s;have hp:=G.p.range;obtain⟨d1,d2,d3⟩:=dims_ok G;obtain⟨w,h1,h2⟩:=qt (B:=F36_1_B a) (D:=fun _ s=> some s) (hi:=Dg a (n - 1)+1) (tp a n+1) (by omega) (by omega) (fun i s=> s=((List.range i).map (levX a n),(List.range i).map (dimX a n))) (fun w=> w=((fX a n).Levels,(cX a n).Dims)) (s:=([],[])) rfl (by
  rintro d s hd rfl;have hl:=zP a n (d:Int);refine .inl ⟨_,?_,rfl⟩;unfold F36_1_B;rw[F72_eq G,ob,zQ (l:=zq (memN a n (d:Int))) (B:=F36_2_B a (zq (memN a n (d:Int)))) (D:=fun _ l=> some l) (s0:=[]) (fun x=> Lv a x.toNat) (by rw[qY]; omega) (fun k hk s hs=> by
   have hk':k < (memN a n (d:Int)).length:=by rwa[qY]at hk
   have hm:=jf.1 (wF hk');simp only[wU]at hs;unfold F36_2_B;rw[jW hk',ob,qD (show(memN a n (d:Int))[k] < 8 by omega),ob,qN (by simp; omega) (by simp; omega),ob];simp[zq,Lv]) (fun _ _=> rfl),ob]
  have e: []++(zq (memN a n (d:Int))).map (fun x=> Lv a x.toNat)=levX a n d:=by simp[zq,levX]
  rw[e,qN (by simp; omega) (by simp; omega),ob,qN (by simp; omega) (by simp; omega),ob,yY,vT,vT];simp[levX,dimX]) (by
  rintro s rfl;exact⟨_,rfl,rfl⟩)
 obtain⟨m,g1,g2⟩:=forR_from (lo:=1) (B:=F36_3_B a a.Prime) (D:=fun _ m=> some m) (hi:=((cX a n).Dims.length:Int)) 1 (tp a n+1) rfl (by rw[d2]) (by omega) (by omega) (fun d s=> 1≤d∧AT (q1 a.Prime) (zM (cX a n).Dims) (cX a n).Maps (fun k' _ _=> k'+1 < d) s) (fun m=> m=(cX a n).Maps) (s:=zM (cX a n).Dims) ⟨wG _,(AT.zero _ _ _).imp fun k i j _=>⟨fun q=> q.elim,fun q=> by omega⟩⟩ (by
  rintro d s hd ⟨hd1,hA⟩;obtain⟨k,rfl⟩:∃k,d=k+1:=⟨d - 1,by omega⟩;obtain⟨s',q1,q2⟩:=F36_4_eq G (k:=k) (by omega) (hA.imp fun k' _ _ _=> by omega);left;refine⟨s',?_,by omega,q2.imp fun k' _ _ _=> by omega⟩;have e:((k+1:Nat):Int)=(k:Int)+1:=by omega
  unfold F36_3_B;rw[F72_eq G,ob];rw[e]at q1 ⊢;rw[q1,ob]) (by
  rintro s ⟨_,hA⟩;refine⟨s,rfl,(hA.1.trans (zX_shp G)).eq fun k i j hin=>?_⟩;have hin':=(zX_shp G).inT hin;have hz:=zX_num G hin';rw[(hA.2 k i j hin').1 (by omega),hz.1,q1_zero hp (numX_rng G hz.2.1 hz.2.2.1 hz.2.2.2)])
 unfold F36;rw[qo (by omega) (by omega),ob,show a.Size - 1=((n - 1:Nat):Int) by omega,qD (show n - 1 < 8 by omega),ob];show(chk (Dg a (n - 1)+1)).bind _=_;rw[qo (by omega) (by omega),ob,h1,ob,h2];simp only;rw[F74_eq d1 (by omega) d3,ob];simp only;rw[g1,ob,g2];rfl
theorem fX_small{a:GDga}{n:Nat}(G:jm a n):zp (fX a n):=by
 have n8:=G.n8;have t2:=G.top.2;refine⟨⟨by simp[fX,cX]; omega,by simp[fX,cX]; omega,fun m hm=>?_⟩,by simp[fX]; omega,fun l hl=>?_⟩
 ·obtain⟨d,_,rfl⟩:=vI.1 hm
  have h1:=zP a n ((d+1:Nat):Int);have h2:=zP a n (d:Int);refine⟨by simp[rowX]at h1 ⊢; omega,fun l hl=>?_⟩;obtain⟨i,_,rfl⟩:=vI.1 hl;rw[vecE_len]; omega
 ·obtain⟨d,_,rfl⟩:=vI.1 hl
  have h2:=zP a n (d:Int);simp[levX]; omega
theorem dm_fX{a:GDga}{n:Nat}{d:Nat}(hd:d < (fX a n).Levels.length):dm (fX a n) d=(memN a n (d:Int)).length:=by
 have hd':d < tp a n+1:=by simpa[fX]using hd
 unfold dm;rw[show(fX a n).Complex=cX a n from rfl,xm hd'];unfold dimX; omega
theorem prod_same{a:GDga}{n:Nat}(G:jm a n)(hf:By 64 a.Diff.val)(ht:By 512 a.Table.val){d e:Nat}{u v:List Int}(hu:qW a.Prime (memN a n (d:Int)).length u)(hv:qW a.Prime (memN a n (e:Int)).length v)(hde:d+e≤1000):
  ∃x y z w,F256 a (d:Int) u=some x∧F256 a (e:Int) v=some y∧F177 a x y=some z∧F257 a ((d+e:Nat):Int) z=some w∧F252 a (d:Int) u (e:Int) v=some w∧qW a.Prime (memN a n ((d+e:Nat):Int)).length w:=by
 have n8:=G.n8;have hp:=G.p.range;obtain⟨x,x1,x2,x3,x4⟩:=elem_same G hu;obtain⟨y,y1,y2,y3,y4⟩:=elem_same G hv;obtain⟨z,z1,z2,z3⟩:=F177_eq hp ht x3 y3;obtain⟨z',q1,q2,q3⟩:=F199_eq hp ht G.s n8 x3 y3;have e1:=F257_eq G (xC hp.2 z2) ((d+e:Nat):Int);have e2:=F107_eq G (xC hp.2 q2) ((d+e:Nat):Int);have e3:vecE a n ((d+e:Nat):Int) z=vecE a n ((d+e:Nat):Int) z':=by
  unfold vecE;apply List.map_congr_left;intro i hi;have:=jf.1 hi;rw[z3 i (by omega),q3 i (by omega),mul_cut n8 x4 y4]
 refine⟨⟨x⟩,⟨y⟩,⟨z⟩,_,x1,y1,z1,e1,?_,vecE_len ..,fun j hj=>?_⟩
 ·unfold F252
  rw[qo (by omega) (by omega),ob,x2,ob,y2,ob,q1,ob,show(d:Int)+(e:Int)=((d+e:Nat):Int) by omega,e2,ob,e3]
 ·have:=vecE_at (a:=a) (n:=n) (u:=z) hj
  have hm:=jf.1 (wF hj);have hz:=z2 (memN a n ((d+e:Nat):Int))[j] (by omega);unfold nth;rw[this]; exact hz
theorem F158_nil{a:GDga}{b:Bool}(h:F180 a=some b):F158 a []=some (if b=true then 0 else 1):=by
 unfold F158;rw[h,ob];cases b with
 |false=> rw[if_neg nt,if_neg nt]
 |true=>
  rw[if_pos rfl,if_pos rfl];have:forR 0 (([]:List (Ar .u8 8)).length:Int) (F158_1_B a []) (F158_1_D a []) ()=some (.inl ()):=by
   unfold forR;rw[if_pos (by simp)];rfl
  rw[this,ob]
theorem pp_same{a:GDga}(h:LongG a)(r n q i m l j:Int):∃w c,F364 a r n q i m l j=some ⟨w,c⟩∧F365 a r n q i m l j=some ⟨w,c⟩∧w.length≤1000:=by
 obtain⟨b,b1,b2,b3⟩:=dga_same h;unfold F364 F365;rw[F158_nil b2,b1,ob,ob];cases b with
 |false=>
  rw[if_neg nt,if_neg nt];exact⟨[],1,if_neg (by decide),rfl,by simp⟩
 |true=>
  obtain⟨s,G, -⟩:=b3 rfl;have hf:=by_of h.f;have ht:=by_of h.t;have hS:=fX_small G;have n8:=G.n8;obtain⟨c,c1,c2,c3⟩:=page_code hS r n q;obtain⟨d,d1,d2,d3⟩:=page_code hS r m l;rw[if_pos rfl,if_pos rfl,if_pos rfl,F65_eq G hf,F36_eq G,ob,ob,c1,c2,d1,d2,ob,ob,ob];by_cases hc:c=0
  rotate_left
  ·rw[if_neg hc,if_neg hc]; exact⟨[],2,rfl,rfl,by simp⟩
  rw[if_pos hc,if_pos hc,ob];by_cases hd:d=0
  rotate_left
  ·rw[if_neg hd,if_neg hd]; exact⟨[],2,rfl,rfl,by simp⟩
  rw[if_pos hd,if_pos hd];obtain⟨hv,hr,⟨hn0,hn1⟩,hq⟩:=c3 hc;obtain⟨-, -,⟨hm0,hm1⟩,hl⟩:=d3 hd;obtain⟨N,rfl⟩:∃k:Nat,n=k:=⟨n.toNat,by omega⟩;obtain⟨M,rfl⟩:∃k:Nat,m=k:=⟨m.toNat,by omega⟩;have hN:N < (fX a s).Levels.length:=by omega
  have hM:M < (fX a s).Levels.length:=by omega
  have hL:(fX a s).Levels.length≤6:=by have:=G.top.2; simp[fX]; omega
  have hDL:(fX a s).Complex.Dims.length=(fX a s).Levels.length:=by simp[fX,cX]
  have hp:=G.p;rw[qo (by omega) (by omega),ob,ob];by_cases h5:5 < q+l
  ·rw[if_pos h5,if_pos h5]; exact⟨[],2,rfl,rfl,by simp⟩
  rw[if_neg h5,if_neg h5];obtain⟨E,e1,e2,e3⟩:=basis_same hS hv hN (r:=r) (q:=q) (by omega) (by omega);obtain⟨T,t1,t2,t3⟩:=basis_same hS hv hM (r:=r) (q:=l) (by omega) (by omega);have hEl:=zF e3;have hTl:=zF t3;have dN:=jG hv hN;have dM:=jG hv hM;rw[e1,e2,t1,t2,ob,ob,ob,ob,qo (by omega) (by omega),ob,ob,xg,jM,ob,ob];by_cases hi:0≤i∧i≤(E.length:Int) - 1
  rotate_left
  ·have:¬decide (0≤i∧i≤(E.length:Int) - 1)=true:=by simpa using hi
   rw[if_neg this,if_neg this]; exact⟨[],2,rfl,rfl,by simp⟩
  have hi':decide (0≤i∧i≤(E.length:Int) - 1)=true:=by simpa using hi
  rw[if_pos hi',if_pos hi',qo (by omega) (by omega),ob,ob,xg,jM,ob,ob];by_cases hj:0≤j∧j≤(T.length:Int) - 1
  rotate_left
  ·have:¬decide (0≤j∧j≤(T.length:Int) - 1)=true:=by simpa using hj
   rw[if_neg this,if_neg this]; exact⟨[],2,rfl,rfl,by simp⟩
  have hj':decide (0≤j∧j≤(T.length:Int) - 1)=true:=by simpa using hj
  obtain⟨I,rfl⟩:∃k:Nat,i=k:=⟨i.toNat,by omega⟩;obtain⟨J,rfl⟩:∃k:Nat,j=k:=⟨j.toNat,by omega⟩;have hI:I < E.length:=by omega
  have hJ:J < T.length:=by omega
  rw[if_pos hj',if_pos hj',qo (by omega) (by omega),ob,ob,F86_eq hS.c.d,ob,hDL];by_cases hs:(N:Int)+(M:Int) < ((fX a s).Levels.length:Int)
  rotate_left
  ·rw[if_pos (by omega),if_pos (by omega)]; exact⟨[],0,rfl,rfl,by simp⟩
  rw[if_neg (by omega),if_neg (by omega),qn hI,ob,ob,qn hJ,ob];have hNM:N+M < (fX a s).Levels.length:=by omega
  have hu:=e3.ok _ (wF hI);have hw:=t3.ok _ (wF hJ);rw[dm_fX hN]at hu;rw[dm_fX hM]at hw;obtain⟨x,y,z,w,p1,p2,p3,p4,p5,p6⟩:=prod_same G hf ht hu hw (by omega);obtain⟨W,w1,w2,w3⟩:=basis_same hS hv hNM (r:=r) (q:=q+l) (by omega) (by omega);obtain⟨B,o1,o2,o3⟩:=bottom_same hS hv hNM (r:=r) (q:=q+l) (by omega) (by omega);have dNM:=jG hv hNM;have hWl:=zF w3;rw[←dm_fX hNM]at p6;have hok:=jT (show 0 < a.Prime by have:=hp.range; omega) o3.ok p6;rw[show(N:Int)+(M:Int)=((N+M:Nat):Int) by omega,p1,ob,ob,p2,ob,p3,ob,p4,ob,p5,ob,w1,w2,ob,o1,o2,ob,ob];refine⟨leadsOf W (rest a.Prime B w),0,?_,?_,by unfold leadsOf; rw[yA]; omega⟩
  ·rw[show F330 a.Prime w B=some (rest a.Prime B w) from F330_eq hp o3 p6 (by omega),ob,ob,zQ (l:=W) (B:=F364_1_B (fX a s) (rest a.Prime B w) W) (D:=F364_1_D (fX a s) (rest a.Prime B w) W) (s0:=[]) (fun t=> nth (rest a.Prime B w) (ld t)) (by omega) (fun k hk s3 hs3=> by
    have htl:=(w3.ok _ (wF hk)).len;have hone:=w3.one _ (wF hk);simp only[wU]at hs3;unfold F364_1_B;rw[qn hk,ob,F81_ld (by omega),if_pos (by rw[htl]; exact hone.1),ob,zN (by rw[hok.len]; exact hone.1),ob,qN (by simp; omega) (by simp; omega),ob]) (fun _ _=> rfl),ob]
   rfl
  ·rw[show F188 a.Prime w W B=some (leadsOf W (rest a.Prime B w)) from F188_eq hp w3 o3 p6 (by omega),ob]
theorem law30{a:GDga}{r n q i m l j:Int}(h:LongG a)(_:Long0 r)(_:Long0 n)(_:Long0 q)(_:Long0 i)(_:Long0 m)(_:Long0 l)(_:Long0 j):L387 a r n q i m l j:=by
 unfold L387;obtain⟨w,c,s1,s2,hw⟩:=pp_same h r n q i m l j;obtain⟨l',mg,g1,g2⟩:=F31_mk (l:=w) (by omega) (k:=1) (by decide) (by decide);have g3:=g2.2.1;exact⟨a,w,c,(l',mg),F229_eq h,s1,s2,F30_same (by omega),g1,F32_held g2 (by decide) (by decide),by simp only; omega⟩
end Rv
