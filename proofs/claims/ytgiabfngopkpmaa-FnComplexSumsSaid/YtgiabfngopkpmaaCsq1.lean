/- The plain law: what the typed functions answer: part 2 -/
import Derived.Test.YtgiabfngopkpmaaCsq0
namespace Rv
set_option linter.unusedVariables false
set_option linter.unusedSimpArgs false
set_option maxRecDepth 10000
theorem forI_inv{σ τ:Type}{B:Int→σ→Option (σ⊕τ)}{D:Int→σ→Option τ}(Inv:Nat→σ→Prop)(Q:τ→Prop)(n:Nat):
  ∀ (k i:Nat) (s:σ),i+k=n→Inv i s→(∀i s,i < n→Inv i s→(∃s',B i s=some (.inl s')∧Inv (i+1) s')∨∃t,B i s=some (.inr t)∧Q t)→(∀s,Inv n s→∃t,D n s=some t∧Q t)→∃t,forI B D k i s=some t∧Q t:=by
 intro k;induction k with
 |zero=>
  intro i s hk hI hb hd;have:i=n:=by omega
  subst this;exact hd s hI
 |succ k ih=>
  intro i s hk hI hb hd;simp only[forI];rcases hb i s (by omega) hI with⟨s',h1,h2⟩|⟨t,h1,h2⟩
  ·rw[h1]
   have:=ih (i+1) s' (by omega) h2 hb hd;simpa using this
  ·rw[h1]; exact⟨t,rfl,h2⟩
theorem qC{σ τ:Type}{B:Int→σ→Option (σ⊕τ)}{D:Int→σ→Option τ}{hi:Int}(n:Nat)(hn:hi=n)(hs:n < 4611686018427387904)(Inv:Nat→σ→Prop)(Q:τ→Prop){s:σ}(h0:Inv 0 s)
  (hb:∀ (i:Nat) s,i < n→Inv i s→(∃s',B i s=some (.inl s')∧Inv (i+1) s')∨∃t,B i s=some (.inr t)∧Q t) (hd:∀s,Inv n s→∃t,D n s=some t∧Q t):∃t,forR 0 hi B D s=some t∧Q t:=by
 subst hn;unfold forR;rw[if_pos (by omega)];have e:((n:Int) - 0).toNat=n:=by omega
 rw[e];exact forI_inv Inv Q n n 0 s (by omega) h0 hb hd
theorem forR_from{σ τ:Type}{B:Int→σ→Option (σ⊕τ)}{D:Int→σ→Option τ}{lo hi:Int}(l n:Nat)(hl:lo=l)(hn:hi=n)(hln:l≤n)(hs:n < 4611686018427387904)(Inv:Nat→σ→Prop)(Q:τ→Prop){s:σ}(h0:Inv l s)
  (hb:∀ (i:Nat) s,i < n→Inv i s→(∃s',B i s=some (.inl s')∧Inv (i+1) s')∨∃t,B i s=some (.inr t)∧Q t) (hd:∀s,Inv n s→∃t,D n s=some t∧Q t):∃t,forR lo hi B D s=some t∧Q t:=by
 subst hn; subst hl;unfold forR;rw[if_pos (by omega)];have e:((n:Int) - (l:Int)).toNat=n - l:=by omega
 rw[e];exact forI_inv Inv Q n (n - l) l s (by omega) h0 hb hd
theorem qU{σ τ:Type}{S:σ→Option (σ⊕τ)}(μ:σ→Nat)(Inv:σ→Prop)(Q:τ→Prop){s:σ}(h0:Inv s)
  (hb:∀s,Inv s→(∃s',S s=some (.inl s')∧Inv s'∧μ s' < μ s)∨∃t,S s=some (.inr t)∧Q t):∃t,ze S s=some t∧Q t:=by
 suffices∀k s,μ s≤k→Inv s→∃t,ze S s=some t∧Q t from this _ s (wE _) h0
 intro k;induction k with
 |zero=>
  intro s hk hI;rcases hb s hI with⟨s',h1,h2,h3⟩|⟨t,h1,h2⟩
  ·omega
  ·exact⟨t,loopW_eq.2 (.inr h1),h2⟩
 |succ k ih=>
  intro s hk hI;rcases hb s hI with⟨s',h1,h2,h3⟩|⟨t,h1,h2⟩
  ·obtain⟨t,h4,h5⟩:=ih s' (by omega) h2
   exact⟨t,loopW_eq.2 (.inl ⟨s',h1,h4⟩),h5⟩
  ·exact⟨t,loopW_eq.2 (.inr h1),h2⟩
theorem qt{α:Type}{l:List α}{i:Nat}(h:i < l.length):getI l (i:Int)=some l[i]:=by
 unfold getI;rw[if_pos (by omega)];simp[h]
theorem qj{α:Type}{l:List α}{i:Nat}(h:i < l.length)(d:α):getI l (i:Int)=some (l.getD i d):=by
 rw[qt h]; simp[h]
theorem qg{n:Int}(h0: -9223372036854775808≤n)(h1:n < 9223372036854775808):chk n=some n:=by
 unfold chk; rw[if_pos ⟨h0,h1⟩]
theorem qW{α:Type}{l:List α}{i:Nat}(h:i < l.length)(y:α):setI l (i:Int) y=some (l.set i y):=by
 unfold setI;rw[if_pos (by omega),vJ]
theorem jb{a b:Int}(h:b≠0):remI a b=some (a.tmod b):=by unfold remI; rw[if_neg h]
theorem mkL_ok{α:Type}{b:Nat}{n:Int}{z:α}(k:Nat)(hn:n=k)(h:k*b≤1099511627776)(h2:k≤1099511627776):mkL b n z=some (List.replicate k z):=by
 subst hn;unfold mkL;rw[if_pos ⟨by omega,by omega,by omega⟩,vJ]
theorem qM{α:Type}{b:Nat}{l l':List α}(h:(l.length+l'.length)*b≤1099511627776)(h2:l.length+l'.length≤1099511627776):app b l l'=some (l++l'):=by
 unfold app; rw[if_pos ⟨h,h2⟩]
def kg(o:Option Bool)(P:Prop):Prop:=∃b,o=some b∧(b=true↔P)
theorem kg.of_true{o:Option Bool}{P:Prop}(h:o=some true)(p:P):kg o P:=⟨true,h,by simp[p]⟩
theorem kg.of_false{o:Option Bool}{P:Prop}(h:o=some false)(p:¬P):kg o P:=⟨false,h,by simp[p]⟩
theorem kg.iff{o:Option Bool}{P Q:Prop}(h:kg o P)(e:P↔Q):kg o Q:=by
 obtain⟨b,h1,h2⟩:=h; exact⟨b,h1,h2.trans e⟩
theorem kg.same{o o':Option Bool}{P:Prop}(h:kg o P)(h':kg o' P):∃b,o=some b∧o'=some b∧(b=true↔P):=by
 obtain⟨b,h1,h2⟩:=h;obtain⟨b',h3,h4⟩:=h';have:b=b':=by rw[uJ]; exact h2.trans h4.symm
 exact⟨b,h1,by rw[this]; exact h3,h2⟩
theorem kg.case{o:Option Bool}{P:Prop}(h:kg o P):(o=some true∧P)∨(o=some false∧¬P):=by
 obtain⟨b,h1,h2⟩:=h;cases b with
 |true=> exact .inl ⟨h1,h2.1 rfl⟩
 |false=> exact .inr ⟨h1,fun p=> by have:=h2.2 p; cases this⟩
def IsP(p:Int):Prop:=p=2∨p=3∨p=5∨p=7
theorem IsP.range{p:Int}(h:IsP p):2≤p∧p≤7:=by unfold IsP at h; omega
def RowOK(p w:Int)(row:List Int):Prop:=(row.length:Int)=w∧∀x∈row,0≤x∧x < p
def TableOK(p c w:Int)(m:List (List Int)):Prop:=(m.length:Int)=c∧∀row∈m,RowOK p w row
theorem jM(n lo hi:Int):F54 n lo hi=some (decide (lo≤n∧n≤hi)):=by
 unfold F54; by_cases h:lo≤n <;> simp[h]
theorem F56_eq(n lo hi:Int):F56 n lo hi=some (decide (lo≤n∧n≤hi)):=by
 unfold F56; by_cases h:lo≤n <;> simp[h]
theorem F78_tells(p:Int):kg (F78 p) (IsP p):=by
 unfold F78 IsP;split
 ·exact .of_true rfl (by omega)
 split
 ·exact .of_true rfl (by omega)
 split
 ·exact .of_true rfl (by omega)
 ·exact⟨_,rfl,by simp; omega⟩
theorem F67_tells(p:Int):kg (F67 p) (IsP p):=by
 unfold F67 IsP;split
 ·exact .of_true rfl (by omega)
 split
 ·exact .of_true rfl (by omega)
 split
 ·exact .of_true rfl (by omega)
 ·exact⟨_,rfl,by simp; omega⟩
theorem F79_2{p w:Int}{m:List (List Int)}(hp:2≤p∧p≤7){i:Nat}(hi:i < m.length)(hs:m[i].length≤1099511627776):
  ∃t,ze (F79_2_S p m w i) 0=some t∧((t= .inl ()∧∀x∈m[i],0≤x∧x < p)∨(t= .inr false∧¬∀x∈m[i],0≤x∧x < p)):=by
 refine qU (fun j:Int=>(m[i].length - j).toNat) (fun j=>∃n:Nat,j=n∧n≤m[i].length∧∀k (hk:k < n) (h2:k < m[i].length),0≤m[i][k]∧m[i][k] < p) _ ⟨0,rfl,by omega,fun k hk=> by omega⟩ ?_;rintro _ ⟨n,rfl,hn,hall⟩;unfold F79_2_S;simp only[qt hi,ob];by_cases hlt:(n:Int) < m[i].length
 ·have hnl:n < m[i].length:=by omega
  simp only[if_pos hlt,qt hnl,ob,qg (show(-9223372036854775808:Int)≤p - 1 by omega) (show p - 1 < 9223372036854775808 by omega),jM];by_cases hx:0≤m[i][n]∧m[i][n]≤p - 1
  ·left
   refine⟨n+1,?_,⟨n+1,rfl,hnl,fun k hk h2=>?_⟩,by omega⟩
   ·simp only[hx,and_self,decide_true,if_true,qg (show(-9223372036854775808:Int)≤(n:Int)+1 by omega) (show(n:Int)+1 < 9223372036854775808 by omega),ob]
   ·by_cases e:k=n
    ·subst e; omega
    ·exact hall k (by omega) h2
  ·right
   refine⟨.inr false,?_,.inr ⟨rfl,fun ha=> hx ?_⟩⟩
   ·simp[hx]
   ·have:=ha _ (wC hnl); omega
 ·right
  refine⟨.inl (),by simp only[if_neg hlt],.inl ⟨rfl,fun x hx=>?_⟩⟩;obtain⟨k,hk,rfl⟩:=wT hx;exact hall k (by omega) hk
theorem F79_tells{p c w:Int}{m:List (List Int)}(hp:2≤p∧p≤7)(hm:m.length≤1099511627776)(hs:∀r∈m,r.length≤1099511627776):kg (F79 p m c w) (TableOK p c w m):=by
 unfold F79;by_cases hc:(m.length:Int)=c
 case neg=> rw[if_neg hc]; exact .of_false rfl fun h=> hc h.1
 rw[if_pos hc];obtain⟨t,h1,h2⟩:=qC (B:=F79_1_B p m w) (D:=F79_1_D p m w) (hi:=m.length) m.length rfl (by omega) (fun i _=>∀k (hk:k < i) (h2:k < m.length),RowOK p w m[k]) (fun t=>(t= .inl ()∧∀r∈m,RowOK p w r)∨(t= .inr false∧¬∀r∈m,RowOK p w r)) (s:=()) (fun k hk=> by omega) (fun i _ hi hI=> by
  unfold F79_1_B;simp only[qt hi,ob];by_cases hw:(m[i].length:Int)=w
  ·rw[if_pos hw]
   obtain⟨t,h1,h2⟩:=F79_2 (w:=w) hp hi (hs _ (wC hi));rw[h1];rcases h2 with⟨rfl,h2⟩|⟨rfl,h2⟩
   ·left
    refine⟨(),rfl,fun k hk h3=>?_⟩;by_cases e:k=i
    ·subst e; exact⟨hw,h2⟩
    ·exact hI k (by omega) h3
   ·right
    exact⟨_,rfl,.inr ⟨rfl,fun ha=> h2 (ha _ (wC hi)).2⟩⟩
  ·rw[if_neg hw]
   right;exact⟨_,rfl,.inr ⟨rfl,fun ha=> hw (ha _ (wC hi)).1⟩⟩) (fun _ hI=>⟨.inl (),rfl,.inl ⟨rfl,fun r hr=> by
    obtain⟨k,hk,rfl⟩:=wT hr;exact hI k hk hk⟩⟩)
 rw[h1];rcases h2 with⟨rfl,h2⟩|⟨rfl,h2⟩
 ·exact .of_true rfl ⟨hc,h2⟩
 ·exact .of_false rfl fun h=> h2 h.2
def addRow(p x:Int)(out row:List Int):List Int:=List.zipWith (fun o y=>(o+x*y).tmod p) out row
def linN(p:Int)(n:Nat)(v:List Int)(m:List (List Int)):Nat→List Int
 |0=> List.replicate n 0
 |i+1=> addRow p (v.getD i 0) (linN p n v m i) (m.getD i [])
def lin(p:Int)(n:Nat)(v:List Int)(m:List (List Int)):List Int:=linN p n v m v.length
structure LinOK (p:Int) (n:Nat) (v:List Int) (m:List (List Int)):Prop where
 hp:2≤p∧p≤7
 hv:∀x∈v,0≤x∧x < p
 hl:v.length≤m.length
 hr:∀l∈m,l.length=n∧∀y∈l,0≤y∧y < p
 hn:n≤1048576
 hvl:v.length≤1048576
theorem small_mul{p x y o:Int}(hp:2≤p∧p≤7)(hx:0≤x∧x < p)(hy:0≤y∧y < p)(ho:0≤o∧o < p):
  chk (x*y)=some (x*y)∧chk (o+x*y)=some (o+x*y)∧0≤(o+x*y).tmod p∧(o+x*y).tmod p < p:=by
 have h1:0≤x*y:=Int.mul_nonneg hx.1 hy.1;have h2:x*y≤6*6:=Int.mul_le_mul (by omega) (by omega) hy.1 (by omega);exact⟨qg (by omega) (by omega),qg (by omega) (by omega),Int.tmod_nonneg _ (by omega),yW _ (by omega)⟩
theorem jT{p x:Int}{out row:List Int}(h:row.length=out.length):(addRow p x out row).length=out.length:=by simp[addRow,h]
theorem addRow_ok{p x:Int}(hp:2≤p∧p≤7)(hx:0≤x∧x < p){out row:List Int}(ho:∀o∈out,0≤o∧o < p)(hy:∀y∈row,0≤y∧y < p):∀o∈addRow p x out row,0≤o∧o < p:=by
 intro o hm;unfold addRow at hm;obtain⟨i,hi,rfl⟩:=wT hm;simp at hi ⊢;exact(small_mul hp hx (hy _ (wC (by omega))) (ho _ (wC (by omega)))).2.2
theorem linN_ok{p:Int}{n:Nat}{v:List Int}{m:List (List Int)}(H:LinOK p n v m):∀i,i≤v.length→(linN p n v m i).length=n∧∀o∈linN p n v m i,0≤o∧o < p:=by
 intro i;induction i with
 |zero=> intro _; refine⟨by simp[linN],fun o ho=>?_⟩; simp[linN]at ho; obtain⟨_,rfl⟩:=ho; have:=H.hp; omega
 |succ i ih=>
  intro hi;obtain⟨h1,h2⟩:=ih (by omega);have e1:v.getD i 0=v[i]:=by simp[show i < v.length by omega]
  have hm:i < m.length:=by have:=H.hl; omega
  have e2:m.getD i []=m[i]:=by simp[hm]
  have hr:=H.hr _ (wC hm);simp only[linN,e1,e2];exact⟨by rw[jT (by rw[hr.1,h1]),h1],addRow_ok H.hp (H.hv _ (wC _)) h2 hr.2⟩
def upTo(p x:Int)(out row:List Int)(k:Nat):List Int:=(addRow p x out row).take k++out.drop k
theorem upTo_len{p x:Int}{out row:List Int}(h:row.length=out.length)(k:Nat)(hk:k≤out.length):(upTo p x out row k).length=out.length:=by
 simp[upTo,jT h]; omega
theorem upTo_at{p x:Int}{out row:List Int}(h:row.length=out.length){k:Nat}(hk:k < out.length)(h2:k < (upTo p x out row k).length):(upTo p x out row k)[k]=out[k]:=by
 have e:(upTo p x out row k)[k]? =some out[k]:=by
  unfold upTo;rw[List.getElem?_append_right (by simp[jT h]; omega)];simp[jT h,uG (Nat.le_of_lt hk),hk]
 rw[List.getElem?_eq_getElem h2]at e;exact wA e
theorem upTo_set{p x:Int}{out row:List Int}(h:row.length=out.length){k:Nat}(hk:k < out.length):
  (upTo p x out row k).set k ((out[k]+x*(row[k]'(by omega))).tmod p)=upTo p x out row (k+1):=by
 have hl:=jT (p:=p) (x:=x) h;unfold upTo;rw[yR _ _ (by simp[hl]; omega),List.take_succ_eq_append_getElem (by omega:k < (addRow p x out row).length)];have e1:((addRow p x out row).take k).length=k:=by simp[hl]; omega
 rw[e1,uL];simp[addRow];rw[yT hk];rfl
theorem upTo_zero{p x:Int}{out row:List Int}:upTo p x out row 0=out:=by simp[upTo]
theorem upTo_all{p x:Int}{out row:List Int}(h:row.length=out.length):upTo p x out row out.length=addRow p x out row:=by
 have hl:=jT (p:=p) (x:=x) h;unfold upTo;rw[wM (by omega),List.drop_of_length_le (by omega),yV]
theorem F80_eq{p:Int}{n:Nat}{v:List Int}{m:List (List Int)}(H:LinOK p n v m){w:Int}(hw:w=n):F80 p m v w=some (lin p n v m):=by
 have hn:=H.hn;have hvl:=H.hvl;have hlm:=H.hl;unfold F80;rw[mkL_ok n hw (by omega) (by omega),ob];obtain⟨t,h1,rfl⟩:=qC (B:=F80_1_B p m v) (D:=F80_1_D p m v) (hi:=v.length) v.length rfl (by omega) (fun i s=> s=linN p n v m i) (fun t=> t=lin p n v m) (s:=List.replicate n 0) rfl (fun i s hi hI=> by
  subst hI;left;obtain⟨q1,q2⟩:=linN_ok H i (by omega);have hm:i < m.length:=by omega
  obtain⟨r1,r2⟩:=H.hr _ (wC hm);have hx:=H.hv _ (wC hi);have e1:v.getD i 0=v[i]:=by simp[hi]
  have e2:m.getD i []=m[i]:=by simp[hm]
  refine⟨_,?_,rfl⟩;unfold F80_1_B;have hlen:m[i].length=(linN p n v m i).length:=by omega
  obtain⟨t,h1,rfl⟩:=qU (S:=F80_2_S p m v i) (fun s=>(n - s.2).toNat) (fun s=>∃k:Nat,k≤n∧s=(upTo p v[i] (linN p n v m i) m[i] k,(k:Int))) (fun t=> t=linN p n v m (i+1)) (s:=(linN p n v m i,0)) ⟨0,by omega,by rw[upTo_zero]; rfl⟩ (by
   rintro _ ⟨k,hk,rfl⟩;unfold F80_2_S;have hul:=upTo_len (p:=p) (x:=v[i]) hlen k (by omega);simp only;by_cases hlt:(k:Int) < (upTo p v[i] (linN p n v m i) m[i] k).length
   ·rw[if_pos hlt]
    have hk1:k < (upTo p v[i] (linN p n v m i) m[i] k).length:=by omega
    have hk2:k < (linN p n v m i).length:=by omega
    have hk3:k < m[i].length:=by omega
    obtain⟨s1,s2,s3,s4⟩:=small_mul H.hp hx (r2 _ (wC hk3)) (q2 _ (wC hk2));have hp0:p≠0:=by have:=H.hp; omega
    left;refine⟨(upTo p v[i] (linN p n v m i) m[i] (k+1),((k+1:Nat):Int)),?_,⟨k+1,by omega,rfl⟩,by simp only; omega⟩;simp only[qt hk1,upTo_at hlen hk2 hk1,qt hi,qt hm,qt hk3,ob,s1,s2,jb hp0,qW hk1,upTo_set hlen hk2,qg (show(-9223372036854775808:Int)≤(k:Int)+1 by omega) (show(k:Int)+1 < 9223372036854775808 by omega)];rfl
   ·rw[if_neg hlt]
    right;have hkn:k=(linN p n v m i).length:=by omega
    refine⟨_,rfl,?_⟩;rw[hkn,upTo_all hlen];simp only[linN,e1,e2])
  rw[h1];rfl) (fun s hI=>⟨_,rfl,hI⟩)
 rw[h1];rfl
theorem F119_2_eq{p:Int}{n:Nat}{v:List Int}{m:List (List Int)}(H:LinOK p n v m){i:Nat}(hi:i < v.length)(hm:i < m.length):
  forR 0 (m[i].length:Int) (F119_2_B p v m i v[i] m[i]) (F119_2_D p v m i v[i] m[i]) (linN p n v m i)=some (linN p n v m (i+1)):=by
 have hn:=H.hn;obtain⟨q1,q2⟩:=linN_ok H i (by omega);obtain⟨r1,r2⟩:=H.hr _ (wC hm);have hx:=H.hv _ (wC hi);have e1:v.getD i 0=v[i]:=by simp[hi]
 have e2:m.getD i []=m[i]:=by simp[hm]
 have hlen:m[i].length=(linN p n v m i).length:=by omega
 have hp0:p≠0:=by have:=H.hp; omega
 obtain⟨t,h1,rfl⟩:=qC (B:=F119_2_B p v m i v[i] m[i]) (D:=F119_2_D p v m i v[i] m[i]) (hi:=m[i].length) m[i].length rfl (by omega) (fun k s=> s=upTo p v[i] (linN p n v m i) m[i] k) (fun t=> t=linN p n v m (i+1)) (s:=linN p n v m i) upTo_zero.symm (by
  intro k s hk hI;subst hI;left;have hul:=upTo_len (p:=p) (x:=v[i]) hlen k (by omega);have hk1:k < (upTo p v[i] (linN p n v m i) m[i] k).length:=by omega
  have hk2:k < (linN p n v m i).length:=by omega
  obtain⟨s1,s2,s3,s4⟩:=small_mul H.hp hx (r2 _ (wC hk)) (q2 _ (wC hk2));refine⟨_,?_,rfl⟩;unfold F119_2_B;simp only[qt hk,qt hk1,upTo_at hlen hk2 hk1,ob,s1,s2,jb hp0,qW hk1,upTo_set hlen hk2]) (by
  intro s hI;refine⟨s,rfl,?_⟩;rw[hI,hlen,upTo_all hlen];simp only[linN,e1,e2])
 exact h1
theorem F119_1_eq{p:Int}{n:Nat}{v:List Int}{m:List (List Int)}(H:LinOK p n v m)(i:Nat)(hi:i < v.length):F119_1_B p v m (i:Int) (linN p n v m i)=some (.inl (linN p n v m (i+1))):=by
 have hlm:=H.hl;have hm:i < m.length:=by omega
 unfold F119_1_B;rw[qt hi,ob,qt hm,ob,F119_2_eq H hi hm,ob]
theorem F119_eq{p:Int}{n:Nat}{v:List Int}{m:List (List Int)}(H:LinOK p n v m){w:Int}(hw:w=n):F119 p w v m=some (lin p n v m):=by
 have hn:=H.hn;have hvl:=H.hvl;have hs:v.length < 4611686018427387904:=by omega
 unfold F119;rw[mkL_ok n hw (by omega) (by omega),ob];obtain⟨t,h1,rfl⟩:=qC (B:=F119_1_B p v m) (D:=F119_1_D p v m) (hi:=v.length) v.length rfl hs (fun i s=> s=linN p n v m i) (fun t=> t=lin p n v m) (s:=List.replicate n 0) rfl (by
  intro i s hi hI;subst hI;left;exact⟨_,F119_1_eq H i hi,rfl⟩) (fun s hI=>⟨s,by unfold F119_1_D; rfl,hI⟩)
 rw[h1,ob]
theorem F115_eq{l:List Int}{f:Int→Option Bool}(P:Int→Bool)(hl:l.length≤1099511627776)(hf:∀x∈l,f x=some (P x)):∃i:Int,F115 l f=some i∧(0≤i↔∃x∈l,P x=true):=by
 unfold F115;have hs:l.length < 4611686018427387904:=by omega
 obtain⟨t,h1,h2⟩:=qC (B:=kp l f) (D:=F115_1_D l f) (hi:=l.length) l.length rfl hs (fun i _=>∀k (hk:k < i) (h2:k < l.length),P l[k]=false) (fun t=>(t= .inl ()∧∀x∈l,P x=false)∨∃i:Nat,t= .inr (i:Int)∧∃x∈l,P x=true) (s:=()) (fun k hk=> by omega) (by
  intro i _ hi hI;unfold kp;rw[qt hi,ob,hf _ (wC hi),ob];cases hp:P l[i]with
  |true=> right; exact⟨_,rfl,.inr ⟨i,rfl,_,wC hi,hp⟩⟩
  |false=>
   left;refine⟨(),rfl,fun k hk h2=>?_⟩;by_cases e:k=i
   ·subst e; exact hp
   ·exact hI k (by omega) h2) (by
  intro _ hI;refine⟨.inl (),rfl,.inl ⟨rfl,fun x hx=>?_⟩⟩;obtain⟨k,hk,rfl⟩:=wT hx;exact hI k hk hk)
 rw[h1];rcases h2 with⟨rfl,h2⟩|⟨i,rfl,h2⟩
 ·exact⟨-1,rfl,⟨fun h=> by omega,fun⟨x,hx,hp⟩=> by rw[h2 x hx]at hp; cases hp⟩⟩
 ·exact⟨i,rfl,⟨fun _=> h2,fun _=> Int.natCast_nonneg i⟩⟩
theorem F82_eq{l:List Int}{f:Int→Option Bool}(P:Int→Bool)(hl:l.length≤1099511627776)(hf:∀x∈l,f x=some (P x)):F82 l f=some (l.any P):=by
 obtain⟨i,h1,h2⟩:=F115_eq P hl hf;unfold F82;rw[h1,ob];have:decide (0≤i)=l.any P:=by
  rw[uJ];simp only[decide_eq_true_eq,vX];exact h2
 rw[this]
theorem F128_eq{l:List (List Int)}{f:List Int→Option Bool}(P:List Int→Bool)(hl:l.length≤1099511627776)(hf:∀x∈l,f x=some (P x)):∃i:Int,F128 l f=some i∧(0≤i↔∃x∈l,P x=true):=by
 unfold F128;have hs:l.length < 4611686018427387904:=by omega
 obtain⟨t,h1,h2⟩:=qC (B:=km l f) (D:=F128_1_D l f) (hi:=l.length) l.length rfl hs (fun i _=>∀k (hk:k < i) (h2:k < l.length),P l[k]=false) (fun t=>(t= .inl ()∧∀x∈l,P x=false)∨∃i:Nat,t= .inr (i:Int)∧∃x∈l,P x=true) (s:=()) (fun k hk=> by omega) (by
  intro i _ hi hI;unfold km;rw[qt hi,ob,hf _ (wC hi),ob];cases hp:P l[i]with
  |true=> right; exact⟨_,rfl,.inr ⟨i,rfl,_,wC hi,hp⟩⟩
  |false=>
   left;refine⟨(),rfl,fun k hk h2=>?_⟩;by_cases e:k=i
   ·subst e; exact hp
   ·exact hI k (by omega) h2) (by
  intro _ hI;refine⟨.inl (),rfl,.inl ⟨rfl,fun x hx=>?_⟩⟩;obtain⟨k,hk,rfl⟩:=wT hx;exact hI k hk hk)
 rw[h1];rcases h2 with⟨rfl,h2⟩|⟨i,rfl,h2⟩
 ·exact⟨-1,rfl,⟨fun h=> by omega,fun⟨x,hx,hp⟩=> by rw[h2 x hx]at hp; cases hp⟩⟩
 ·exact⟨i,rfl,⟨fun _=> h2,fun _=> Int.natCast_nonneg i⟩⟩
theorem F117_eq{l:List (List Int)}{f:List Int→Option Bool}(P:List Int→Bool)(hl:l.length≤1099511627776)(hf:∀x∈l,f x=some (P x)):F117 l f=some (l.any P):=by
 obtain⟨i,h1,h2⟩:=F128_eq P hl hf;unfold F117;rw[h1,ob];have:decide (0≤i)=l.any P:=by
  rw[uJ];simp only[decide_eq_true_eq,vX];exact h2
 rw[this]
def rowB(p w:Int)(row:List Int):Bool:=decide ((row.length:Int)=w)&& row.all fun x=> decide (0≤x∧x < p)
theorem rowB_iff{p w:Int}{row:List Int}:rowB p w row=true↔RowOK p w row:=by
 unfold rowB RowOK;simp only[wO,decide_eq_true_eq,wR]
theorem F130_eq{p:Int}(hp:2≤p∧p≤7)(x:Int):F130 x p=some (!decide (0≤x∧x < p)):=by
 unfold F130;rw[qg (by omega) (by omega),ob,F56_eq,ob]
 congr 3
 exact propext ⟨fun h=>⟨h.1,by omega⟩,fun h=>⟨h.1,by omega⟩⟩
theorem F129_eq{p w:Int}(hp:2≤p∧p≤7){l:List Int}(hl:l.length≤1099511627776):F129 p w l=some (rowB p w l):=by
 unfold F129 rowB;by_cases h:(l.length:Int)=w
 ·rw[if_pos h,F82_eq (fun x=> !decide (0≤x∧x < p)) hl (fun x _=> F130_eq hp x),ob]
  simp[h,List.not_any_eq_all_not]
 ·rw[if_neg h]; simp[h]
theorem F116_eq{p w:Int}(hp:2≤p∧p≤7){l:List Int}(hl:l.length≤1099511627776):F116 l p w=some (!rowB p w l):=by
 unfold F116; rw[F129_eq hp hl,ob]
theorem F90_eq{p w:Int}(hp:2≤p∧p≤7){m:List (List Int)}(hm:m.length≤1099511627776)(hs:∀r∈m,r.length≤1099511627776):F90 p w m=some (m.all (rowB p w)):=by
 unfold F90;rw[F117_eq (fun r=> !rowB p w r) hm (fun r hr=> F116_eq hp (hs r hr)),ob];simp[List.not_any_eq_all_not]
theorem F90_tells{p w:Int}(hp:2≤p∧p≤7){m:List (List Int)}(hm:m.length≤1099511627776)(hs:∀r∈m,r.length≤1099511627776):kg (F90 p w m) (∀r∈m,RowOK p w r):=
 ⟨_,F90_eq hp hm hs,by simp only[wR,rowB_iff]⟩
theorem F92_tells{l:List Int}(hl:l.length≤1099511627776):kg (F92 l) (∀x∈l,x=0):=by
 unfold F92;have h:F82 l (fun x=> F118 x)=some (l.any fun x=> !decide (x=0)):=F82_eq _ hl (fun x _=> rfl);rw[h,ob];exact⟨_,rfl,by simp[List.not_any_eq_all_not]⟩
theorem F81_tells{l:List Int}(hl:l.length≤1099511627776):∃i,F81 l=some i∧(0≤i↔¬∀x∈l,x=0):=by
 unfold F81;have hs:l.length < 4611686018427387904:=by omega
 obtain⟨t,h1,h2⟩:=qC (B:=F81_1_B l) (D:=F81_1_D l) (hi:=l.length) l.length rfl hs (fun i _=>∀k (hk:k < i) (h2:k < l.length),l[k]=0) (fun t=>(t= .inl ()∧∀x∈l,x=0)∨∃i:Nat,t= .inr (i:Int)∧¬∀x∈l,x=0) (s:=()) (fun k hk=> by omega) (by
  intro i _ hi hI;unfold F81_1_B;rw[qt hi,ob];by_cases hp:l[i]=0
  ·rw[if_pos hp]
   left;refine⟨(),rfl,fun k hk h2=>?_⟩;by_cases e:k=i
   ·subst e; exact hp
   ·exact hI k (by omega) h2
  ·rw[if_neg hp]
   right;exact⟨_,rfl,.inr ⟨i,rfl,fun ha=> hp (ha _ (wC hi))⟩⟩) (by
  intro _ hI;refine⟨.inl (),rfl,.inl ⟨rfl,fun x hx=>?_⟩⟩;obtain⟨k,hk,rfl⟩:=wT hx;exact hI k hk hk)
 rw[h1];rcases h2 with⟨rfl,h2⟩|⟨i,rfl,h2⟩
 ·exact⟨-1,rfl,⟨fun h=> by omega,fun h=> absurd h2 h⟩⟩
 ·exact⟨i,rfl,⟨fun _=> h2,fun _=> Int.natCast_nonneg i⟩⟩
structure qw (x:qa):Prop where
 d:x.Dims.length≤1048576
 m:x.Maps.length≤1048576
 r:∀m∈x.Maps,m.length≤1048576∧∀l∈m,l.length≤1048576
structure ShapeC (x:qa):Prop where
 p:IsP x.Prime
 dl:1≤x.Dims.length∧x.Dims.length≤6
 ml:x.Maps.length+1=x.Dims.length
 dims:∀d∈x.Dims,0≤d∧d≤8
def jL(x:qa)(k:Nat):Prop:=TableOK x.Prime (x.Dims.getD (k+1) 0) (x.Dims.getD k 0) (x.Maps.getD k [])
def SqAt(x:qa)(k:Nat):Prop:=∀row∈x.Maps.getD k [],∀y∈lin x.Prime (x.Dims.getD (k - 1) 0).toNat row (x.Maps.getD (k - 1) []),y=0
structure qp (x:qa):Prop extends ShapeC x where
 tab:∀k,k < x.Maps.length→jL x k
 sq:∀k,0 < k→k < x.Maps.length→SqAt x k
theorem lin_len{p:Int}{n:Nat}{v:List Int}{m:List (List Int)}(H:LinOK p n v m):(lin p n v m).length=n:=(linN_ok H _ (wE _)).1
theorem linOK_of{x:qa}(hs:ShapeC x){k:Nat}(h1:0 < k)(h2:k < x.Maps.length)(t1:jL x (k - 1))(t2:jL x k){row:List Int}(hr:row∈x.Maps.getD k []):
  LinOK x.Prime (x.Dims.getD (k - 1) 0).toNat row (x.Maps.getD (k - 1) [])∧0≤x.Dims.getD (k - 1) 0∧x.Dims.getD (k - 1) 0≤8:=by
 have hd:∀j,j < x.Dims.length→0≤x.Dims.getD j 0∧x.Dims.getD j 0≤8:=fun j hj=> by
  have:=hs.dims _ (wC hj);simpa[hj]using this
 have hml:=hs.ml;have d1:=hd (k - 1) (by omega);have d2:=hd k (by omega);obtain⟨q1,q2⟩:=t2.2 row hr;refine⟨⟨hs.p.range,q2,?_,fun l hl=>?_,?_,?_⟩,d1⟩
 ·have:=t1.1
  have e:k - 1+1=k:=by omega
  rw[e]at this;omega
 ·obtain⟨r1,r2⟩:=t1.2 l hl
  exact⟨by omega,r2⟩
 ·omega
 ·omega
theorem xk{x:qa}(h:x.Dims.length≤1048576):F86 x=some ((x.Dims.length:Int) - 1):=by
 unfold F86; rw[qg (by omega) (by omega),ob]
theorem mapsD{x:qa}{k:Nat}(h:k < x.Maps.length):x.Maps.getD k []=x.Maps[k]:=by simp[h]
theorem F39_3_eq{x:qa}(hs:ShapeC x){k:Nat}(h2:k < x.Maps.length)(t1:0 < k→jL x (k - 1))(t2:jL x k)(hsm:qw x):
  ∃t,ze (F39_3_S x (k:Int)) 0=some t∧((t= .inl ()∧(0 < k→SqAt x k))∨(t= .inr false∧0 < k∧¬SqAt x k)):=by
 have hml:=hs.ml;have hdl:=hs.dl;have hk:=(hsm.r _ (wC h2)).1;refine qU (fun j:Int=>(x.Maps[k].length - j).toNat) (fun j=>∃n:Nat,j=n∧n≤x.Maps[k].length∧(0 < k→∀i (hi:i < n) (h3:i < x.Maps[k].length),∀y∈lin x.Prime (x.Dims.getD (k - 1) 0).toNat x.Maps[k][i] (x.Maps.getD (k - 1) []),y=0)) _ ⟨0,rfl,by omega,fun _ i hi=> by omega⟩ ?_;rintro _ ⟨n,rfl,hn,hall⟩;unfold F39_3_S;rw[qt h2,ob];by_cases hlt:(n:Int) < x.Maps[k].length
 ·rw[if_pos hlt]
  have hnl:n < x.Maps[k].length:=by omega
  by_cases h0:0 < k
  ·rw[if_pos (by omega)]
   obtain⟨H,d0,d8⟩:=linOK_of hs h0 h2 (t1 h0) t2 (row:=x.Maps[k][n]) (by rw[mapsD h2]; exact wC hnl);have e1:((k:Int) - 1)=((k - 1:Nat):Int):=by omega
   rw[qg (by omega) (by omega),ob,e1,qj (show k - 1 < x.Maps.length by omega) [],ob,qt hnl,ob,qj (show k - 1 < x.Dims.length by omega) 0,ob,
    F80_eq H (by omega),ob]
   obtain⟨i,g1,g2⟩:=F81_tells (l:=lin x.Prime (x.Dims.getD (k - 1) 0).toNat x.Maps[k][n] (x.Maps.getD (k - 1) [])) (by rw[lin_len H]; omega);rw[g1,ob];by_cases hz:0≤i
   ·rw[if_pos hz]
    right;refine⟨_,rfl,.inr ⟨rfl,h0,fun ha=> g2.1 hz (ha _ (by rw[mapsD h2]; exact wC hnl))⟩⟩
   ·rw[if_neg hz]
    left;rw[qg (by omega) (by omega),ob];refine⟨_,rfl,⟨n+1,rfl,hnl,fun _ i hi h3=>?_⟩,by omega⟩;by_cases e:i=n
    ·subst e
     exact yK fun hq=> hz (g2.2 hq)
    ·exact hall h0 i (by omega) h3
  ·rw[if_neg (by omega)]
   right;exact⟨_,rfl,.inl ⟨rfl,fun h=> absurd h h0⟩⟩
 ·rw[if_neg hlt]
  right;refine⟨_,rfl,.inl ⟨rfl,fun h0 row hr=>?_⟩⟩;rw[mapsD h2]at hr;obtain⟨i,hi,rfl⟩:=wT hr;exact hall h0 i (by omega) hi
theorem F39_2_eq{x:qa}(hs:ShapeC x)(hsm:qw x):
  ∃t,forR 0 (x.Maps.length:Int) (F39_2_B x) (F39_2_D x) ()=some t∧((t= .inl ()∧(∀k,k < x.Maps.length→jL x k)∧∀k,0 < k→k < x.Maps.length→SqAt x k)∨(t= .inr false∧¬((∀k,k < x.Maps.length→jL x k)∧∀k,0 < k→k < x.Maps.length→SqAt x k))):=by
 have hml:=hs.ml;have hm:=hsm.m;have hlen:x.Maps.length < 4611686018427387904:=by omega
 refine qC x.Maps.length rfl hlen (fun i _=>(∀k,k < i→jL x k)∧∀k,0 < k→k < i→SqAt x k) _ ⟨fun k hk=> by omega,fun k _ hk=> by omega⟩ ?_ ?_
 ·rintro i _ hi ⟨ht,hq⟩
  unfold F39_2_B;have e2:((i:Int)+1)=((i+1:Nat):Int):=by omega
  have hr:=hsm.r _ (wC hi);rw[qt hi,ob,e2,qj (show i+1 < x.Dims.length by omega) 0,ob,qj (show i < x.Dims.length by omega) 0,ob];have hT:=F79_tells (p:=x.Prime) (c:=x.Dims.getD (i+1) 0) (w:=x.Dims.getD i 0) (m:=x.Maps[i]) hs.p.range (by omega) (fun r h=> by have:=hr.2 r h; omega);rcases hT.case with⟨h1,h2⟩|⟨h1,h2⟩
  ·rw[h1,ob,if_pos rfl]
   have hti:jL x i:=by unfold jL; rw[mapsD hi]; exact h2
   obtain⟨t,g1,g2⟩:=F39_3_eq hs hi (fun h0=> ht _ (by omega)) hti hsm;rw[g1,ob];rcases g2 with⟨rfl,g2⟩|⟨rfl,g0,g2⟩
   ·left
    refine⟨(),rfl,fun k hk=>?_,fun k h0 hk=>?_⟩
    ·by_cases e:k=i
     ·subst e; exact hti
     ·exact ht k (by omega)
    ·by_cases e:k=i
     ·subst e; exact g2 h0
     ·exact hq k h0 (by omega)
   ·right
    exact⟨_,rfl,.inr ⟨rfl,fun ha=> g2 (ha.2 i g0 hi)⟩⟩
  ·rw[h1,ob,if_neg wD]
   right;refine⟨_,rfl,.inr ⟨rfl,fun ha=> h2 ?_⟩⟩;have:=ha.1 i hi;unfold jL at this;rw[mapsD hi]at this;exact this
 ·rintro _ ⟨ht,hq⟩
  exact⟨.inl (),rfl,.inl ⟨rfl,ht,hq⟩⟩
theorem F39_1_eq{x:qa}(hsm:qw x):∃t,forR 0 (x.Dims.length:Int) (F39_1_B x) (F39_1_D x) ()=some t∧((t= .inl ()∧∀d∈x.Dims,0≤d∧d≤8)∨(t= .inr false∧¬∀d∈x.Dims,0≤d∧d≤8)):=by
 have hm:=hsm.d;have hlen:x.Dims.length < 4611686018427387904:=by omega
 refine qC x.Dims.length rfl hlen (fun i _=>∀k (hk:k < i) (h2:k < x.Dims.length),0≤x.Dims[k]∧x.Dims[k]≤8) _ (fun k hk=> by omega) ?_ ?_
 ·rintro i _ hi hI
  unfold F39_1_B;rw[qt hi,ob,jM,ob];by_cases h:0≤x.Dims[i]∧x.Dims[i]≤8
  ·rw[if_pos (by simpa using h)]
   left;refine⟨(),rfl,fun k hk h2=>?_⟩;by_cases e:k=i
   ·subst e; exact h
   ·exact hI k (by omega) h2
  ·rw[if_neg (by simpa using h)]
   right;exact⟨_,rfl,.inr ⟨rfl,fun ha=> h (ha _ (wC hi))⟩⟩
 ·rintro _ hI
  refine⟨.inl (),rfl,.inl ⟨rfl,fun d hd=>?_⟩⟩;obtain⟨k,hk,rfl⟩:=wT hd;exact hI k hk hk
theorem jH{x:qa}(hsm:qw x):kg (F39 x) (qp x):=by
 have hd:=hsm.d;unfold F39;rcases(F78_tells x.Prime).case with⟨h1,hp⟩|⟨h1,hp⟩
 case inr=> rw[h1,ob,if_neg wD]; exact .of_false rfl fun h=> hp h.p
 rw[h1,ob,if_pos rfl];by_cases c1:(x.Dims.length:Int) < 1
 ·rw[if_pos c1]; exact .of_false rfl fun h=> by have:=h.dl; omega
 rw[if_neg c1];by_cases c2:6 < (x.Dims.length:Int)
 ·rw[if_pos c2]; exact .of_false rfl fun h=> by have:=h.dl; omega
 rw[if_neg c2,qg (by omega) (by omega),ob];by_cases c3:(x.Maps.length:Int)=(x.Dims.length:Int) - 1
 case neg=> rw[if_neg c3]; exact .of_false rfl fun h=> by have:=h.ml; omega
 rw[if_pos c3];obtain⟨t,g1,g2⟩:=F39_1_eq hsm;rw[g1,ob];rcases g2 with⟨rfl,g2⟩|⟨rfl,g2⟩
 case inr=> exact .of_false rfl fun h=> g2 h.dims
 have hs:ShapeC x:=⟨hp,by omega,by omega,g2⟩;obtain⟨t,k1,k2⟩:=F39_2_eq hs hsm;simp only;rw[k1,ob];rcases k2 with⟨rfl,k2,k3⟩|⟨rfl,k2⟩
 ·exact .of_true rfl ⟨hs,k2,k3⟩
 ·exact .of_false rfl fun h=> k2 ⟨h.tab,h.sq⟩
theorem F42_1_eq{x:qa}(hs:ShapeC x)(hsm:qw x):
  ∃t,forR 0 (x.Maps.length:Int) (F42_1_B x) (F42_1_D x) ()=some t∧((t= .inl ()∧∀k,k < x.Maps.length→jL x k)∨(t= .inr false∧¬∀k,k < x.Maps.length→jL x k)):=by
 have hml:=hs.ml;have hm:=hsm.m;have hlen:x.Maps.length < 4611686018427387904:=by omega
 refine qC x.Maps.length rfl hlen (fun i _=>∀k,k < i→jL x k) _ (fun k hk=> by omega) ?_ ?_
 ·rintro i _ hi ht
  unfold F42_1_B;have e2:((i:Int)+1)=((i+1:Nat):Int):=by omega
  have hr:=hsm.r _ (wC hi);rw[qt hi,ob,e2,qj (show i+1 < x.Dims.length by omega) 0,ob];have hti:jL x i↔((x.Maps[i].length:Int)=x.Dims.getD (i+1) 0∧∀r∈x.Maps[i],RowOK x.Prime (x.Dims.getD i 0) r):=by unfold jL; rw[mapsD hi]; rfl
  by_cases hc:(x.Maps[i].length:Int)=x.Dims.getD (i+1) 0
  ·rw[if_pos hc,qj (show i < x.Dims.length by omega) 0,ob]
   have hT:=F90_tells (p:=x.Prime) (w:=x.Dims.getD i 0) (m:=x.Maps[i]) hs.p.range (by omega) (fun r h=> by have:=hr.2 r h; omega);rcases hT.case with⟨h1,h2⟩|⟨h1,h2⟩
   ·rw[h1,ob,if_pos rfl]
    left;refine⟨(),rfl,fun k hk=>?_⟩;by_cases e:k=i
    ·subst e; exact hti.2 ⟨hc,h2⟩
    ·exact ht k (by omega)
   ·rw[h1,ob,if_neg wD]
    right;exact⟨_,rfl,.inr ⟨rfl,fun ha=> h2 (hti.1 (ha i hi)).2⟩⟩
  ·rw[if_neg hc]
   right;exact⟨_,rfl,.inr ⟨rfl,fun ha=> hc (hti.1 (ha i hi)).1⟩⟩
 ·rintro _ ht
  exact⟨.inl (),rfl,.inl ⟨rfl,ht⟩⟩
theorem F91_eq{x:qa}(hs:ShapeC x)(hsm:qw x){k:Nat}(h1:0 < k)(h2:k < x.Maps.length)(t1:jL x (k - 1))(t2:jL x k){row:List Int}(hr:row∈x.Maps.getD k []):
  F91 x (k:Int) row=some (lin x.Prime (x.Dims.getD (k - 1) 0).toNat row (x.Maps.getD (k - 1) [])):=by
 have hml:=hs.ml;have hdl:=hs.dl;obtain⟨H,d0,d8⟩:=linOK_of hs h1 h2 t1 t2 hr;unfold F91;have e1:((k:Int) - 1)=((k - 1:Nat):Int):=by omega
 rw[if_neg (by omega),xk hsm.d,ob,if_neg (by omega),qg (by omega) (by omega),ob,e1,qj (show k - 1 < x.Dims.length by omega) 0,ob,qj (show k - 1 < x.Maps.length by omega) [],ob,
  F119_eq H (by omega),ob]
theorem F42_3_eq{x:qa}(hs:ShapeC x)(hsm:qw x)(ht:∀k,k < x.Maps.length→jL x k){n:Nat}(hn:2≤n)(h2:n - 1 < x.Maps.length):
  ∃t,forR 0 ((x.Maps[n - 1].length:Nat):Int) (F42_3_B x (n:Int) x.Maps[n - 1]) (F42_3_D x (n:Int) x.Maps[n - 1]) ()=some t∧((t= .inl ()∧SqAt x (n - 1))∨(t= .inr false∧¬SqAt x (n - 1))):=by
 have hml:=hs.ml;have hdl:=hs.dl;have hk:=(hsm.r _ (wC h2)).1;have hlen:x.Maps[n - 1].length < 4611686018427387904:=by omega
 refine qC x.Maps[n - 1].length rfl hlen (fun i _=>∀j (hj:j < i) (h3:j < x.Maps[n - 1].length),∀y∈lin x.Prime (x.Dims.getD (n - 1 - 1) 0).toNat x.Maps[n - 1][j] (x.Maps.getD (n - 1 - 1) []),y=0) _ (fun j hj=> by omega) ?_ ?_
 ·rintro i _ hi hI
  unfold F42_3_B;have hrow:x.Maps[n - 1][i]∈x.Maps.getD (n - 1) []:=by rw[mapsD h2]; exact wC hi
  have e1:((n:Int) - 1)=((n - 1:Nat):Int):=by omega
  have t1:=ht (n - 1 - 1) (by omega);have t2:=ht (n - 1) h2;obtain⟨H,d0,d8⟩:=linOK_of hs (by omega) h2 t1 t2 hrow;rw[qt hi,ob,qg (by omega) (by omega),ob,e1,F91_eq hs hsm (by omega) h2 t1 t2 hrow,ob];rcases(F92_tells (l:=lin x.Prime (x.Dims.getD (n - 1 - 1) 0).toNat x.Maps[n - 1][i] (x.Maps.getD (n - 1 - 1) [])) (by rw[lin_len H]; omega)).case with⟨g1,g2⟩|⟨g1,g2⟩
  ·rw[g1,ob,if_pos rfl]
   left;refine⟨(),rfl,fun j hj h3=>?_⟩;by_cases e:j=i
   ·subst e; exact g2
   ·exact hI j (by omega) h3
  ·rw[g1,ob,if_neg wD]
   right;exact⟨_,rfl,.inr ⟨rfl,fun ha=> g2 (ha _ hrow)⟩⟩
 ·rintro _ hI
  refine⟨.inl (),rfl,.inl ⟨rfl,fun row hr=>?_⟩⟩;rw[mapsD h2]at hr;obtain⟨j,hj,rfl⟩:=wT hr;exact hI j hj hj
theorem F42_2_eq{x:qa}(hs:ShapeC x)(hsm:qw x)(ht:∀k,k < x.Maps.length→jL x k):
  ∃t,ze (F42_2_S x) 2=some t∧((t= .inl ()∧∀k,0 < k→k < x.Maps.length→SqAt x k)∨(t= .inr false∧¬∀k,0 < k→k < x.Maps.length→SqAt x k)):=by
 have hml:=hs.ml;have hdl:=hs.dl;refine qU (fun j:Int=>(x.Dims.length+2 - j).toNat) (fun j=>∃n:Nat,j=n∧2≤n∧n≤x.Dims.length+1∧∀k,0 < k→k < n - 1→k < x.Maps.length→SqAt x k) _ ⟨2,rfl,by omega,by omega,fun k h0 hk=> by omega⟩ ?_;rintro _ ⟨n,rfl,hn,hn2,hall⟩;unfold F42_2_S;rw[xk hsm.d,ob];by_cases hlt:(n:Int)≤(x.Dims.length:Int) - 1
 ·rw[if_pos hlt]
  have e1:((n:Int) - 1)=((n - 1:Nat):Int):=by omega
  have h2:n - 1 < x.Maps.length:=by omega
  rw[qg (by omega) (by omega),ob,e1,qt h2,ob];obtain⟨t,g1,g2⟩:=F42_3_eq hs hsm ht hn h2;rw[g1,ob];rcases g2 with⟨rfl,g2⟩|⟨rfl,g2⟩
  ·left
   refine⟨((n+1:Nat):Int),?_,⟨n+1,rfl,by omega,by omega,fun k h0 hk h3=>?_⟩,by omega⟩
   ·simp only
    rw[qg (by omega) (by omega),ob];rfl
   ·by_cases e:k=n - 1
    ·subst e; exact g2
    ·exact hall k h0 (by omega) h3
  ·right
   exact⟨_,rfl,.inr ⟨rfl,fun ha=> g2 (ha _ (by omega) h2)⟩⟩
 ·rw[if_neg hlt]
  right;exact⟨_,rfl,.inl ⟨rfl,fun k h0 hk=> hall k h0 (by omega) hk⟩⟩
theorem jm{x:qa}(hsm:qw x):kg (F42 x) (qp x):=by
 have hd:=hsm.d;unfold F42;rcases(F67_tells x.Prime).case with⟨h1,hp⟩|⟨h1,hp⟩
 case inr=> rw[h1,ob,if_neg wD]; exact .of_false rfl fun h=> hp h.p
 rw[h1,ob,if_pos rfl,xk hd,ob,F56_eq,ob];by_cases c1:0≤(x.Dims.length:Int) - 1∧(x.Dims.length:Int) - 1≤5
 case neg=> rw[if_neg (by simpa using c1)]; exact .of_false rfl fun h=> by have:=h.dl; omega
 rw[if_pos (by simpa using c1)];by_cases c3:(x.Maps.length:Int)=(x.Dims.length:Int) - 1
 case neg=> rw[if_neg c3]; exact .of_false rfl fun h=> by have:=h.ml; omega
 rw[if_pos c3];have h88:F82 x.Dims (fun y=> F88 y)=some (x.Dims.any fun d=> !decide (0≤d∧d≤8)):=F82_eq _ (by omega) (fun d _=> by unfold F88; rw[F56_eq,ob]);rw[h88,ob];have hany:(x.Dims.any fun d=> !decide (0≤d∧d≤8))=true↔¬∀d∈x.Dims,0≤d∧d≤8:=by
  simp only[vX,yD,decide_eq_false_iff_not];constructor
  ·rintro⟨d,h1,h2⟩ ha; exact h2 (ha d h1)
  ·intro hn
   exact yK fun hc=> hn fun d hd=> yK fun h=> hc ⟨d,hd,h⟩
 by_cases c4:(x.Dims.any fun d=> !decide (0≤d∧d≤8))=true
 ·rw[if_pos c4]; exact .of_false rfl fun h=> hany.1 c4 h.dims
 rw[if_neg c4];have hdims:∀d∈x.Dims,0≤d∧d≤8:=yK fun hc=> c4 (hany.2 hc);have hs:ShapeC x:=⟨hp,by omega,by omega,hdims⟩;obtain⟨t,g1,g2⟩:=F42_1_eq hs hsm;rw[g1,ob];rcases g2 with⟨rfl,ht⟩|⟨rfl,ht⟩
 case inr=> exact .of_false rfl fun h=> ht h.tab
 obtain⟨t,k1,k2⟩:=F42_2_eq hs hsm ht;simp only;rw[k1,ob];rcases k2 with⟨rfl,k2⟩|⟨rfl,k2⟩
 ·exact .of_true rfl ⟨hs,ht,k2⟩
 ·exact .of_false rfl fun h=> k2 h.sq
def zg(ms:List (List (List Int)))(k i j:Nat):Int:=((ms.getD k []).getD i []).getD j 0
def InT(ms:List (List (List Int)))(k i j:Nat):Prop:=k < ms.length∧i < (ms.getD k []).length∧j < ((ms.getD k []).getD i []).length
theorem qG{α:Type}{l:List α}{i:Nat}(h:i < l.length)(d:α):l.getD i d∈l:=by
 rw[List.getD_eq_getElem?_getD,List.getElem?_eq_getElem h]; exact wC h
abbrev LongL{α:Type}(L:α→Prop)(l:List α):Prop:=l.length≤9223372036854775807∧∀y∈l,L y
structure SmallT (ms:List (List (List Int))):Prop where
 m:ms.length≤1048576
 r:∀m∈ms,m.length≤1048576∧∀r∈m,r.length≤1048576
def TabM(x:qa)(ms:List (List (List Int)))(k:Nat):Prop:=TableOK x.Prime (x.Dims.getD (k+1) 0) (x.Dims.getD k 0) (ms.getD k [])
structure xj (x:qa) (ms:List (List (List Int))):Prop where
 v:qp x
 l:ms.length=x.Maps.length
 t:∀k,k < ms.length→TabM x ms k
abbrev T3s:=List (List (List Int))
structure Shp (s u:T3s):Prop where
 l:s.length=u.length
 t:∀k,k < u.length→(s.getD k []).length=(u.getD k []).length
 r:∀k,k < u.length→∀i,i < (u.getD k []).length→((s.getD k []).getD i []).length=((u.getD k []).getD i []).length
theorem Shp.refl(s:T3s):Shp s s:=⟨rfl,fun _ _=> rfl,fun _ _ _ _=> rfl⟩
theorem Shp.trans{a b c:T3s}(h:Shp a b)(k:Shp b c):Shp a c:=
 ⟨h.l.trans k.l,fun n hn=>(h.t n (by rw[k.l]; exact hn)).trans (k.t n hn),fun n hn i hi=>(h.r n (by rw[k.l]; exact hn) i (by rw[k.t n hn]; exact hi)).trans (k.r n hn i hi)⟩
theorem Shp.symm{a b:T3s}(h:Shp a b):Shp b a:=
 ⟨h.l.symm,fun n hn=>(h.t n (by rw[←h.l]; exact hn)).symm,fun n hn i hi=>(h.r n (by rw[←h.l]; exact hn) i (by rw[←h.t n (by rw[←h.l]; exact hn)]; exact hi)).symm⟩
theorem Shp.inT{s t:T3s}(h:Shp s t){k i j:Nat}(q:InT t k i j):InT s k i j:=by
 obtain⟨q1,q2,q3⟩:=q;exact⟨by rw[h.l]; exact q1,by rw[h.t k q1]; exact q2,by rw[h.r k q1 i q2]; exact q3⟩
theorem jQ{α:Type}{l l':List α}(d:α)(h:l.length=l'.length)(hv:∀k,k < l'.length→l.getD k d=l'.getD k d):l=l':=by
 apply yO h;intro k h1 h2;have:=hv k h2;simpa[h1,h2]using this
theorem Shp.eq{s t:T3s}(h:Shp s t)(hv:∀k i j,InT t k i j→zg s k i j=zg t k i j):s=t:=by
 refine jQ [] h.l fun k hk=> jQ [] (h.t k hk) fun i hi=> jQ 0 (h.r k hk i hi) fun j hj=> hv k i j ⟨hk,hi,hj⟩
def put3(s:T3s)(k i j:Nat)(z:Int):T3s:=s.set k ((s.getD k []).set i (((s.getD k []).getD i []).set j z))
theorem jP{α:Type}{l:List α}{k k':Nat}{x d:α}(hk:k < l.length):(l.set k x).getD k' d=if k'=k then x else l.getD k' d:=by
 rw[List.getD_eq_getElem?_getD,List.getElem?_set];by_cases e:k=k'
 ·subst e; rw[if_pos rfl,if_pos hk,if_pos rfl]; rfl
 ·rw[if_neg e,if_neg (fun q=> e q.symm),List.getD_eq_getElem?_getD]
theorem put3_shp{s:T3s}{k i j:Nat}(h:InT s k i j)(z:Int):Shp (put3 s k i j z) s:=by
 obtain⟨h1,h2,h3⟩:=h;refine⟨by simp[put3],fun n hn=>?_,fun n hn m hm=>?_⟩
 ·unfold put3; rw[jP h1]; split
  ·rename_i e; subst e; simp
  ·rfl
 ·unfold put3; rw[jP h1]; split
  ·rename_i e; subst e
   rw[jP h2]; split
   ·rename_i e; subst e; simp
   ·rfl
  ·rfl
theorem put3_at{s:T3s}{k i j:Nat}(h:InT s k i j)(z:Int)(k' i' j':Nat):zg (put3 s k i j z) k' i' j'=if k'=k∧i'=i∧j'=j then z else zg s k' i' j':=by
 obtain⟨h1,h2,h3⟩:=h;unfold zg put3;rw[jP h1];by_cases e:k'=k
 ·subst e
  rw[if_pos rfl,jP h2];by_cases e:i'=i
  ·subst e
   rw[if_pos rfl,jP h3];by_cases e:j'=j
   ·subst e; simp
   ·rw[if_neg e,if_neg (by simp[e])]
  ·rw[if_neg e,if_neg (by simp[e])]
 ·rw[if_neg e,if_neg (by simp[e])]
def q1(p a b:Int):Int:=((a+b).tmod p+p).tmod p
def Rng(p:Int)(s:T3s):Prop:=∀k i j,InT s k i j→0≤zg s k i j∧zg s k i j < p
def AT(q:Int→Int→Int)(s0 ms:T3s)(D:Nat→Nat→Nat→Prop)(s:T3s):Prop:=
 Shp s s0∧∀k i j,InT s0 k i j→(D k i j→zg s k i j=q (zg s0 k i j) (zg ms k i j))∧(¬D k i j→zg s k i j=zg s0 k i j)
theorem AT.imp{q:Int→Int→Int}{s0 ms:T3s}{D D':Nat→Nat→Nat→Prop}{s:T3s}(h:AT q s0 ms D s)(hd:∀k i j,InT s0 k i j→(D k i j↔D' k i j)):AT q s0 ms D' s:=
 ⟨h.1,fun k i j hin=>⟨fun d=>(h.2 k i j hin).1 ((hd k i j hin).2 d),fun d=>(h.2 k i j hin).2 fun x=> d ((hd k i j hin).1 x)⟩⟩
theorem AT.zero(q:Int→Int→Int)(s0 ms:T3s):AT q s0 ms (fun _ _ _=> False) s0:=⟨.refl _,fun k i j _=>⟨fun x=> x.elim,fun _=> rfl⟩⟩
theorem AT.step{q:Int→Int→Int}{s0 ms:T3s}{D D':Nat→Nat→Nat→Prop}{s:T3s}(h:AT q s0 ms D s){k i j:Nat}(hin:InT s0 k i j)(hn:¬D k i j)(hd:∀k' i' j',D' k' i' j'↔D k' i' j'∨(k'=k∧i'=i∧j'=j)):AT q s0 ms D' (put3 s k i j (q (zg s k i j) (zg ms k i j))):=by
 have hs:=h.1.inT hin;refine⟨(put3_shp hs _).trans h.1,fun k' i' j' hin'=>?_⟩;rw[put3_at hs];by_cases e:k'=k∧i'=i∧j'=j
 ·obtain⟨rfl,rfl,rfl⟩:=e
  rw[if_pos ⟨rfl,rfl,rfl⟩,(h.2 _ _ _ hin').2 hn];exact⟨fun _=> rfl,fun d=> absurd ((hd _ _ _).2 (.inr ⟨rfl,rfl,rfl⟩)) d⟩
 ·rw[if_neg e]
  refine⟨fun d=>(h.2 _ _ _ hin').1 (((hd _ _ _).1 d).resolve_right e),fun d=>(h.2 _ _ _ hin').2 fun x=> d ((hd _ _ _).2 (.inl x))⟩
theorem cpy_loop{α:Type}{l:List α}{B:Int→List α→Option (List α⊕List α)}{D:Int→List α→Option (List α)}(hl:l.length≤1048576)
  (hB:∀ (i:Nat) (hi:i < l.length) (s:List α),s.length=i→B i s=some (.inl (s++[l[i]]))) (hD:∀i s,D i s=some s):forR 0 (l.length:Int) B D []=some l:=by
 have hlen:l.length < 4611686018427387904:=by omega
 obtain⟨t,h1,h2⟩:=qC (B:=B) (D:=D) l.length rfl hlen (fun i s=> s=l.take i) (fun t=> t=l) (s:=[]) (by simp) (by
  rintro i s hi rfl;left;refine⟨_,hB i hi _ (by simp; omega),?_⟩;rw[wY]) (by
  rintro s rfl;exact⟨_,hD _ _,by simp⟩)
 rw[h1,h2]
theorem app_nil{b:Nat}{α:Type}{l:List α}(h:l.length*b≤1099511627776)(h2:l.length≤1099511627776):app b [] l=some l:=by
 rw[qM (by simpa using h) (by simpa using h2)]; rfl
theorem F94_eq{l:List Int}(h:l.length≤1048576):F94 l=some l:=by
 unfold F94; rw[app_nil (by omega) (by omega),ob]
theorem F96_eq{l:List Int}(h:l.length≤1048576):F96 l=some l:=by
 unfold F96; rw[app_nil (by omega) (by omega)]
theorem F95_eq{l:List (List Int)}(h:l.length≤1048576)(h2:∀r∈l,r.length≤1048576):F95 l=some l:=by
 unfold F95;rw[cpy_loop (B:=F95_1_B l) (D:=F95_1_D l) h (fun i hi s hs=> by
  unfold F95_1_B;rw[qt hi,ob,F94_eq (h2 _ (wC hi)),ob,qM (by simp; omega) (by simp; omega),ob]) (fun i s=> rfl),ob]
theorem F55_eq{x:qa}(h:qw x):F55 x=some x:=by
 have hm:=h.m;have hlen:x.Maps.length < 4611686018427387904:=by omega
 unfold F55;rw[F94_eq h.d,ob];obtain⟨t,h1,h2⟩:=qC (B:=F55_1_B x) (D:=F55_1_D x) x.Maps.length rfl hlen (fun i s=> s=(x.Maps.take i,x.Prime,x.Dims)) (fun t=> t=(x.Maps,x.Prime,x.Dims)) (s:=([],x.Prime,x.Dims)) (by simp) (by
  rintro i s hi rfl;left;have hr:=h.r _ (wC hi);have hlt:(x.Maps.take i).length=i:=by simp; omega
  refine⟨(x.Maps.take (i+1),x.Prime,x.Dims),?_,rfl⟩;unfold F55_1_B;simp only;rw[qt hi,ob,F95_eq hr.1 hr.2,ob,qM (by simp; omega) (by simp; omega),ob,wY]) (by
  rintro s rfl;exact⟨_,rfl,by simp⟩)
 rw[h1,h2,ob]
theorem TabM.len{x:qa}{ms:T3s}{k:Nat}(h:TabM x ms k):((ms.getD k []).length:Int)=x.Dims.getD (k+1) 0:=h.1
theorem xj.self{x:qa}(h:qp x):xj x x.Maps:=⟨h,rfl,fun k hk=> h.tab k hk⟩
theorem xj.rng{x:qa}{ms:T3s}(h:xj x ms):Rng x.Prime ms:=by
 rintro k i j ⟨h1,h2,h3⟩;exact((h.t k h1).2 _ (qG h2 [])).2 _ (qG h3 0)
theorem xj.shp{x:qa}{ms ns:T3s}(h:xj x ms)(k:xj x ns):Shp ms ns:=by
 have e:ms.length=ns.length:=h.l.trans k.l.symm;refine⟨e,fun n hn=>?_,fun n hn i hi=>?_⟩
 ·have a:=(h.t n (by omega)).1
  have b:=(k.t n hn).1;omega
 ·have a:=(h.t n (by omega)).1
  have b:=(k.t n hn).1;have c:=((h.t n (by omega)).2 _ (qG (show i < (ms.getD n []).length by omega) [])).1;have d:=((k.t n hn).2 _ (qG hi [])).1;omega
def zT(dims:List Int)(k:Nat):List (List Int):=List.replicate (dims.getD (k+1) 0).toNat (List.replicate (dims.getD k 0).toNat (0:Int))
def zM(dims:List Int):T3s:=(List.range (dims.length - 1)).map (zT dims)
theorem zM_at{dims:List Int}{k:Nat}(hk:k < dims.length - 1):(zM dims).getD k []=zT dims k:=by
 unfold zM;rw[List.getD_eq_getElem?_getD,List.getElem?_map,List.getElem?_range hk]; rfl
theorem qw.zero:qw (⟨0,[],[]⟩:qa):=⟨by simp,by simp,by simp⟩
structure SmallF (x:GFiltered):Prop where
 c:qw x.Complex
 l:x.Levels.length≤1048576
 r:∀q∈x.Levels,q.length≤1048576
theorem SmallF.zero:SmallF (⟨⟨0,[],[]⟩,[]⟩:GFiltered):=⟨.zero,by simp,by simp⟩
theorem tmod_pos{a p:Int}(h:0≤a):a.tmod p=a% p:=vU h
theorem tmod_cg{a p:Int}:Cg p (a.tmod p) a:=⟨-(a.tdiv p),by have:=Int.tmod_add_mul_tdiv a p; grind⟩
theorem F127_eq{p x:Int}(hp:2≤p∧p≤7):F127 p x=some (x% p):=by
 have h1:=yW x (show 0 < p by omega);have h2: -p < x.tmod p:=by
  have h3:=yW (-x) (show 0 < p by omega);rw[Int.neg_tmod]at h3; omega
 unfold F127;rw[jb (by omega),ob,qg (by omega) (by omega),ob,jb (by omega),ob,tmod_pos (by omega)]
 congr 1
 exact Cg.emod ((tmod_cg.add (Cg.refl p p)).trans ⟨1,by grind⟩)
theorem idx_loop{α:Type}{l:List α}(g:Nat→α→α){B:Int→List α→Option (List α⊕List α)}{D:Int→List α→Option (List α)}(hl:l.length≤1048576)
  (hB:∀ (i:Nat) (hi:i < l.length) (s:List α),s.length=l.length→(∀k,s[k]? =if k < i then(l[k]?).map (g k)else l[k]?)→B i s=some (.inl (s.set i (g i l[i])))) (hD:∀i s,D i s=some s):forR 0 (l.length:Int) B D l=some (l.mapIdx g):=by
 obtain⟨t,h1,h2⟩:=qC (B:=B) (D:=D) l.length rfl (by omega) (fun i s=> s.length=l.length∧∀k,s[k]? =if k < i then(l[k]?).map (g k)else l[k]?) (fun t=> t=l.mapIdx g) (s:=l) ⟨rfl,fun k=> by simp⟩ (by
  rintro i s hi ⟨p1,p2⟩;left;refine⟨_,hB i hi s p1 p2,by rw[yQ]; exact p1,fun k=>?_⟩;rw[List.getElem?_set];by_cases e:i=k
  ·subst e; rw[if_pos rfl,if_pos (by omega),if_pos (by omega)]; simp[hi]
  ·rw[if_neg e,p2 k]
   by_cases q:k < i
   ·rw[if_pos q,if_pos (by omega)]
   ·rw[if_neg q,if_neg (by omega)]) (by
  rintro s ⟨p1,p2⟩;refine⟨s,hD _ _,?_⟩;apply List.ext_getElem?;intro k;rw[p2 k,List.getElem?_mapIdx];by_cases q:k < l.length
  ·rw[if_pos q]
  ·rw[if_neg q,List.getElem?_eq_none (by omega)]; rfl)
 rw[h1,h2]
theorem jh{v:List Int}{j:Nat}(h:j < v.length):getI v (j:Int)=some (nth v j):=by rw[qt h,qO h]
theorem rng_mul{p a b:Int}(hp:2≤p∧p≤7)(ha:0≤a∧a < p)(hb:0≤b∧b < p):0≤a*b∧a*b≤49:=by
 refine⟨Int.mul_nonneg ha.1 hb.1,?_⟩;have:=Int.mul_le_mul (show a≤7 by omega) (show b≤7 by omega) hb.1 (by decide);omega
theorem scl_loop{p k:Int}{w:Nat}(hp:2≤p∧p≤7)(hk:0≤k∧k < p){v:List Int}(hv:qH p w v)(hw:w≤1048576){B:Int→List Int→Option (List Int⊕List Int)}{D:Int→List Int→Option (List Int)}
  (hB:∀i row,B i row=(getI row i).bind fun x=>(chk (x*k)).bind fun m=>(remI m p).bind fun z=>(setI row i z).bind fun r=> some (.inl r)) (hD:∀i s,D i s=some s):forR 0 (v.length:Int) B D v=some (scl p v k):=by
 have hl:=hv.len;rw[idx_loop (fun _ x=> x*k% p) (by omega) (fun i hi s hs hk'=>?_) hD]
 ·congr 1
  apply yO <;> simp[scl]
 ·have h1:s[i]? =v[i]?:=by rw[hk' i,if_neg (Nat.lt_irrefl _)]
  have h2:s[i]'(by omega)=v[i]:=by
   have:=h1;rw[List.getElem?_eq_getElem (by omega),List.getElem?_eq_getElem hi]at this;exact wA this
  have hr:=hv.rng i (by omega);rw[qO hi]at hr;have hm:=rng_mul hp hr hk;rw[hB,qt (show i < s.length by omega),ob,h2,qg (by omega) (by omega),ob,jb (by omega),ob,qW (by omega),ob,tmod_pos hm.1]
theorem F136_eq{p k:Int}{w:Nat}(hp:2≤p∧p≤7)(hk:0≤k∧k < p){v u:List Int}(hv:qH p w v)(hu:qH p w u)(hw:w≤1048576):F136 p v u k=some (subv p v u k):=by
 have hl:=hv.len;have hul:=hu.len;have hsl:(subv p v u k).length=w:=by simp[subv,hl,hul]
 unfold F136;obtain⟨t,g1,g2⟩:=qC (B:=xw p v u k) (D:=F136_1_D p v u k) v.length rfl (by omega) (fun i s=> s=(subv p v u k).take i) (fun t=> t=subv p v u k) (s:=[]) (by simp) (by
  rintro i s hi rfl;left;have hiw:i < w:=by omega
  have h1:=hv.rng i hiw;have h2:=hu.rng i hiw;have hm:=rng_mul hp hk h2;refine⟨(subv p v u k).take (i+1),?_,rfl⟩;unfold xw;rw[jh hi,ob,jh (by omega),ob,qg (by omega) (by omega),ob,qg (by omega) (by omega),ob,F127_eq hp,ob,qM (by simp; omega) (by simp; omega),ob]
  congr 2
  rw[←wY (show i < (subv p v u k).length by omega)]
  congr 2
  have:=zS (p:=p) (k:=k) hl hul hiw;rw[qO (by omega)]at this;exact this.symm) (by
  rintro s rfl;refine⟨_,rfl,?_⟩;rw[wM (by omega)])
 rw[g1,ob,g2]
theorem F81_ld{r:List Int}(hl:r.length≤1048576):F81 r=some (if ld r < r.length then(ld r:Int)else -1):=by
 unfold F81;obtain⟨t,g1,g2⟩:=qC (B:=F81_1_B r) (D:=F81_1_D r) r.length rfl (by omega) (fun i _=> i≤ld r) (fun t=>(t= .inl ()∧r.length≤ld r)∨(t= .inr (ld r:Int)∧ld r < r.length)) (s:=()) (vO _) (by
  rintro i _ hi hI;unfold F81_1_B;rw[jh hi,ob];by_cases h:nth r i=0
  ·left
   rw[if_pos h];refine⟨(),rfl,?_⟩;rcases vA i (ld r)with q|q
   ·exact q
   ·have:i=ld r:=by omega
    subst this;exact absurd h (ld_ne hi)
  ·right
   rw[if_neg h];refine⟨_,rfl,.inr ?_⟩;have:ld r=i:=by
    rcases vA i (ld r)with q|q
    ·exact absurd (zD q) h
    ·omega
   rw[this]; exact⟨rfl,hi⟩) (by
  rintro _ hI;exact⟨_,rfl,.inl ⟨rfl,hI⟩⟩)
 rw[g1,ob];rcases g2 with⟨rfl,h⟩|⟨rfl,h⟩
 ·rw[if_neg (by omega)]
 ·rw[if_pos h]
theorem inv_ex{p x:Int}(hp:IsP p)(h1:1≤x)(h2:x < p):∃m,1≤m∧m < p∧m*x% p=1:=by
 unfold IsP at hp;rcases hp with rfl|rfl|rfl|rfl
 ·obtain rfl:x=1:=by omega
  exact⟨1,by decide⟩
 ·have:x=1∨x=2:=by omega
  rcases this with rfl|rfl
  ·exact⟨1,by decide⟩
  ·exact⟨2,by decide⟩
 ·have:x=1∨x=2∨x=3∨x=4:=by omega
  rcases this with rfl|rfl|rfl|rfl
  ·exact⟨1,by decide⟩
  ·exact⟨3,by decide⟩
  ·exact⟨2,by decide⟩
  ·exact⟨4,by decide⟩
 ·have:x=1∨x=2∨x=3∨x=4∨x=5∨x=6:=by omega
  rcases this with rfl|rfl|rfl|rfl|rfl|rfl
  ·exact⟨1,by decide⟩
  ·exact⟨4,by decide⟩
  ·exact⟨5,by decide⟩
  ·exact⟨2,by decide⟩
  ·exact⟨3,by decide⟩
  ·exact⟨6,by decide⟩
theorem cg_one{p a:Int}(hp:2≤p∧p≤7)(h:a% p=1):Cg p a 1:=by
 have:=(Cg.mod p a).symm
 rwa[h]at this
theorem F135_eq{p x:Int}(hp:IsP p)(h1:1≤x)(h2:x < p):∃k,F135 p x=some k∧0≤k∧k < p∧Cg p (x*k) 1:=by
 have hr:=hp.range;obtain⟨m,m1,m2,m3⟩:=inv_ex hp h1 h2;obtain⟨n,hn⟩:∃n:Nat,p=n:=⟨p.toNat,by omega⟩;obtain⟨t,g1,k,rfl,g2,g3,g4⟩:=forR_from (B:=F135_1_B p x) (D:=F135_1_D p x) (lo:=1) (hi:=p) 1 n rfl hn (by omega) (by omega) (fun i _=> 1≤i∧∀j:Int,1≤j→j < i→j*x% p≠1) (fun t=>∃k:Int,t= .inr k∧0≤k∧k < p∧Cg p (x*k) 1) (s:=()) ⟨wE _,fun j a b=> by omega⟩ (by
  rintro i _ hi ⟨h0,hI⟩;unfold F135_1_B;have hm:=rng_mul hr (show 0≤(i:Int)∧(i:Int) < p by omega) (show 0≤x∧x < p by omega);rw[F127_eq hr,ob,vP (show 0≤x by omega) h2,qg (by omega) (by omega),ob,jb (by omega),ob,tmod_pos hm.1];by_cases h:(i:Int)*x% p=1
  ·right
   rw[if_pos h];exact⟨_,rfl,_,rfl,by omega,by omega,by rw[Int.mul_comm]; exact cg_one hr h⟩
  ·left
   rw[if_neg h];refine⟨(),rfl,by omega,fun j a b=>?_⟩;by_cases e:j=i
   ·subst e; exact h
   ·exact hI j a (by omega)) (by
  rintro _ ⟨h0,hI⟩;exact absurd m3 (hI m m1 (by omega)))
 unfold F135;rw[g1,ob];exact⟨k,rfl,g2,g3,g4⟩
theorem F138_eq{p x:Int}(hp:IsP p)(h1:1≤x)(h2:x < p):∃k,F138 p x=some k∧0≤k∧k < p∧Cg p (x*k) 1:=by
 have hr:=hp.range;obtain⟨m,m1,m2,m3⟩:=inv_ex hp h1 h2;obtain⟨t,g1,g2,g3,g4⟩:=qU (S:=F138_1_S p x) (fun v=>(m - v).toNat) (fun v=> 1≤v∧v≤m) (fun t=> 0≤t∧t < p∧Cg p (x*t) 1) (s:=1) ⟨by decide,m1⟩ (by
  rintro v ⟨v1,v2⟩;unfold F138_1_S;have hm:=rng_mul hr (show 0≤v∧v < p by omega) (show 0≤x∧x < p by omega);rw[qg (by omega) (by omega),ob,jb (by omega),ob,tmod_pos hm.1];by_cases h:v*x% p=1
  ·right
   rw[if_pos h];exact⟨_,rfl,by omega,by omega,by rw[Int.mul_comm]; exact cg_one hr h⟩
  ·left
   have hne:v≠m:=fun e=> by rw[e]at h; exact h m3
   rw[if_neg h,qg (by omega) (by omega),ob];exact⟨_,rfl,⟨by omega,by omega⟩,by omega⟩)
 unfold F138;rw[g1,ob];exact⟨t,rfl,g2,g3,g4⟩
theorem F139_eq{p k:Int}{w:Nat}(hp:2≤p∧p≤7)(hk:0≤k∧k < p){r o:List Int}(hr:qH p w r)(ho:qH p w o)(hw:w≤1048576):F139 r o p k=some (subv p r o k):=by
 have hl:=hr.len;have hol:=ho.len;unfold F139;rw[show(o.length:Int)=(r.length:Int) by omega,idx_loop (l:=r) (B:=F139_1_B o p k) (D:=F139_1_D) (fun i x=>(x - k*nth o i)% p) (by omega) (fun i hi s hs hk'=>?_) (fun i s=> rfl)]
 ·congr 1
  have hsl:(subv p r o k).length=w:=by simp[subv,hl,hol]
  apply yO (by simp[hl,hsl]);intro i h1 h2;have hi:i < w:=by omega
  have:=zS (p:=p) (k:=k) hl hol hi;rw[qO h2,qO (show i < r.length by omega)]at this;rw[this]; simp
 ·have h1:s[i]? =r[i]?:=by rw[hk' i,if_neg (Nat.lt_irrefl _)]
  have h2:s[i]'(by omega)=r[i]:=by
   have:=h1;rw[List.getElem?_eq_getElem (by omega),List.getElem?_eq_getElem hi]at this;exact wA this
  have a1:=hr.rng i (by omega);rw[qO hi]at a1;have a2:=ho.rng i (by omega);have hm:0≤(p - k)*nth o i∧(p - k)*nth o i≤49:=by
   refine⟨Int.mul_nonneg (by omega) a2.1,?_⟩;have:=Int.mul_le_mul (show p - k≤7 by omega) (show nth o i≤7 by omega) a2.1 (by decide);omega
  unfold F139_1_B;rw[jh (by omega),ob,qt (show i < s.length by omega),ob,h2,qg (by omega) (by omega),ob,qg (by omega) (by omega),ob,qg (by omega) (by omega),ob,jb (by omega),ob,qW (by omega),ob,tmod_pos (by omega)]
  congr 3
  exact Cg.emod ⟨nth o i,by grind⟩
theorem F134_eq{p:Int}{w:Nat}(hp:2≤p∧p≤7){R:List (List Int)}(hR:Red p w R){v:List Int}(hv:qH p w v)(hw:w≤1048576)(hn:R.length≤1048576):F134 p R v=some (rest p R v):=by
 have hp0:0 < p:=by omega
 unfold F134;rw[F94_eq (by rw[hv.len]; exact hw),ob];have key:∀i,i≤R.length→qH p w (rest p (R.take i) v):=fun i _=> xQ hp0 (fun r hr=> hR.ok r (wN hr)) hv;obtain⟨t,g1,g2⟩:=qC (B:=F134_1_B p R) (D:=F134_1_D p R) R.length rfl (by omega) (fun i s=> s=rest p (R.take i) v) (fun t=> t=rest p R v) (s:=v) rfl (by
  rintro i s hi rfl;left;refine⟨_,?_,rfl⟩;have hk:=key i (by omega);have hm:=wC hi;have hok:=hR.ok _ hm;have hone:=hR.one _ hm;unfold F134_1_B;rw[qt hi,ob,F81_ld (by rw[hok.len]; exact hw),if_pos (by rw[hok.len]; exact hone.1),ob,jh (by rw[hk.len]; exact hone.1),ob,F136_eq hp (hk.rng _ hone.1) hk hok hw,ob]
  congr 2
  rw[←wY hi];unfold rest;rw[List.foldl_append]; rfl) (by
  rintro s rfl;exact⟨_,rfl,by rw[vI]⟩)
 rw[g1,ob,g2]
theorem ins_cons{p:Int}{own:List Int}{a:Nat}{o:List Int}{out:List (List Int)}:ins p own a (o::out)=if a < ld o then own::insF p own a o::out.map (insF p own a)else insF p own a o::ins p own a out:=rfl
theorem F131_3_eq{p:Int}{w a:Nat}(hp:2≤p∧p≤7){out:List (List Int)}{own:List Int}(hR:Red p w out)(n:New p w out own a)(hw:w≤1048576)(hn:out.length≤1000000):
  ∃nx put,forR 0 (out.length:Int) (F131_3_B p out own a) F131_3_D ([],false)=some (nx,put)∧(if put=true then nx else nx++[own])=ins p own a out∧nx.length≤2000000:=by
 obtain⟨t,g1,g2,g3⟩:=qC (B:=F131_3_B p out own a) (D:=F131_3_D) out.length rfl (by omega) (fun i s=> s.1.length≤2*i∧(s.2=true→s.1++(out.drop i).map (insF p own a)=ins p own a out)∧(s.2=false→s.1++ins p own a (out.drop i)=ins p own a out))
  (fun t=>(if t.2=true then t.1 else t.1++[own])=ins p own a out∧t.1.length≤2000000) (s:=([],false)) ⟨by simp,by simp,by simp⟩ (by
  rintro i ⟨nx,put⟩ hi ⟨p1,p2,p3⟩;simp only at p1 p2 p3;left;have hm:=wC hi;have hok:=hR.ok _ hm;have hone:=hR.one _ hm;have hr:=hok.rng a n.lt;have hq:F136 p out[i] own (nth out[i] a)=some (insF p own a out[i]):=F136_eq hp hr hok n.ok hw;rw[yT hi]at p2 p3;unfold F131_3_B F131_3_C;simp only;cases put with
  |true=>
   have e:=p2 rfl;rw[if_pos rfl,ob,if_neg wD,ob,qt hi,ob,jh (by rw[hok.len]; exact n.lt),ob,hq,ob,qM (by simp; omega) (by simp; omega),ob];exact⟨_,rfl,by simp; omega,fun _=> by rw[←e]; simp only[vC,wP,vN,yL],fun h=> by cases h⟩
  |false=>
   have e:=p3 rfl;rw[if_neg wD,qt hi,ob,F81_ld (by rw[hok.len]; exact hw),if_pos (by rw[hok.len]; exact hone.1),ob,ob];by_cases h:a < ld out[i]
   ·have hd:decide ((a:Int) < (ld out[i]:Int))=true:=by simpa using h
    rw[ins_cons,if_pos h]at e;rw[hd,if_pos rfl,qM (by simp; omega) (by simp; omega),ob,ob,ob,jh (by rw[hok.len]; exact n.lt),ob,hq,ob,qM (by simp; omega) (by simp; omega),ob];exact⟨_,rfl,by simp; omega,fun _=> by rw[←e]; simp only[vC,wP,vN,yL],fun h=> by cases h⟩
   ·have hd:decide ((a:Int) < (ld out[i]:Int))=false:=by simpa using h
    rw[ins_cons,if_neg h]at e;rw[hd,if_neg wD,ob,ob,jh (by rw[hok.len]; exact n.lt),ob,hq,ob,qM (by simp; omega) (by simp; omega),ob];exact⟨_,rfl,by simp; omega,(fun h=> by cases h),fun _=> by rw[←e]; simp only[wP,vN,yL]⟩) (by
  rintro⟨nx,put⟩ ⟨p1,p2,p3⟩;simp only at p1 p2 p3;refine⟨_,rfl,?_,by simp only; omega⟩;rw[List.drop_length]at p2 p3;cases put with
  |true=> simpa using p2 rfl
  |false=> simpa[ins]using p3 rfl)
 exact⟨t.1,t.2,g1,g2,g3⟩
theorem F131_ech{p:Int}{w:Nat}(hp:IsP p){rows:List (List Int)}(hr:Rows p w rows)(hw:w≤1048576)(hn:rows.length≤1000000):∃out,F131 p rows=some out∧qV p w rows out:=by
 have hpr:=hp.range;have hp1:1 < p:=by omega
 obtain⟨t,g1,g2,g3⟩:=qC (B:=F131_1_B p rows) (D:=F131_1_D) rows.length rfl (by omega) (fun i s=> qV p w (rows.take i) s∧s.length≤i) (fun t=> qV p w rows t∧t.length≤rows.length) (s:=[]) ⟨.nil p w,wE _⟩ (by
  rintro i out hi ⟨p1,p2⟩;left;have hrow:=hr _ (wC hi);have hrt:Rows p w (rows.take i):=fun r h=> hr r (wN h);have hrest:=xQ (show 0 < p by omega) p1.red.ok hrow;have hl:¬(ld (rest p out rows[i]) < w)∨ld (rest p out rows[i]) < w:=by omega
  unfold F131_1_B;rw[qt hi,ob,F134_eq hpr p1.red hrow hw (by omega),ob,F81_ld (by rw[hrest.len]; exact hw),ob,hrest.len];rcases hl with hl|hl
  ·rw[if_neg hl,if_pos (by decide)]
   refine⟨out,rfl,?_,by omega⟩;rw[←wY hi];exact p1.skip hp1 hrt hrow fun j hj=> zD (by omega)
  ·rw[if_pos hl,if_neg (by omega)]
   have hne:=ld_ne (r:=rest p out rows[i]) (by rw[hrest.len]; exact hl);have hrg:=hrest.rng _ hl;obtain⟨k,k1,k2,k3,k4⟩:=F135_eq hp (x:=nth (rest p out rows[i]) (ld (rest p out rows[i]))) (by omega) hrg.2;have n:=p1.new hp1 hrow hl (fun j hj=> zD hj) k4;obtain⟨nx,put,q1,q2,q3⟩:=F131_3_eq hpr p1.red n hw (by omega);have hlen:((rest p out rows[i]).length:Int)=(w:Int):=by rw[hrest.len]
   have hsc:=scl_loop hpr ⟨k2,k3⟩ hrest hw (B:=F131_2_B p k) (D:=F131_2_D) (fun i row=> rfl) (fun i s=> rfl);have hput:=p1.put hp1 hrt hrow hl (fun j hj=> zD hj) k4;rw[wY hi]at hput;rw[jh (by rw[hrest.len]; exact hl),ob,k1,ob,←hlen,hsc,ob,q1,ob];simp only;cases put with
   |true=>
    rw[if_pos rfl]at q2 ⊢;rw[q2];exact⟨_,rfl,hput,by rw[ins_len]; omega⟩
   |false=>
    rw[if_neg wD]at q2 ⊢;rw[qM (by simp; omega) (by simp; omega),ob,q2];exact⟨_,rfl,hput,by rw[ins_len]; omega⟩) (by
  rintro out ⟨p1,p2⟩;rw[vI]at p1;exact⟨_,rfl,p1,p2⟩)
 exact⟨t,g1,g2⟩
theorem F128_first{l:List (List Int)}{f:List Int→Option Bool}(P:List Int→Bool)(hl:l.length≤1048576)(hf:∀x∈l,f x=some (P x)):∃i:Int,F128 l f=some i∧((i= -1∧∀x∈l,P x=false)∨∃m:Nat,i=m∧m < l.length∧P (qn l m)=true):=by
 unfold F128;obtain⟨t,h1,h2⟩:=qC (B:=km l f) (D:=F128_1_D l f) (hi:=l.length) l.length rfl (by omega) (fun i _=>∀k (hk:k < i) (h2:k < l.length),P l[k]=false) (fun t=>(t= .inl ()∧∀x∈l,P x=false)∨∃m:Nat,t= .inr (m:Int)∧m < l.length∧P (qn l m)=true) (s:=()) (fun k hk=> by omega) (by
  intro i _ hi hI;unfold km;rw[qt hi,ob,hf _ (wC hi),ob];cases hp:P l[i]with
  |true=> right; exact⟨_,rfl,.inr ⟨i,rfl,hi,by rw[qE hi]; exact hp⟩⟩
  |false=>
   left;refine⟨(),rfl,fun k hk h2=>?_⟩;by_cases e:k=i
   ·subst e; exact hp
   ·exact hI k (by omega) h2) (by
  intro _ hI;refine⟨.inl (),rfl,.inl ⟨rfl,fun x hx=>?_⟩⟩;obtain⟨k,hk,rfl⟩:=wT hx;exact hI k hk hk)
 rw[h1,ob];rcases h2 with⟨rfl,h2⟩|⟨m,rfl,h2⟩
 ·exact⟨_,rfl,.inl ⟨rfl,h2⟩⟩
 ·exact⟨_,rfl,.inr ⟨m,rfl,h2⟩⟩
theorem gstep_loop{p:Int}{w c d:Nat}(hp:2≤p∧p≤7){l:List (List Int)}{row:List Int}(hl:Rows p w l)(hd:d < l.length)(hrow:qn l d=row)(hc:c < w)(hw:w≤1048576)(hn:l.length≤1000000):
  forR 0 (l.length:Int) (F133_4_B p c d) F133_4_D l=some (jD p c d row l):=by
 have hdr:=hl _ (zB hd);rw[hrow]at hdr;rw[idx_loop (l:=l) (B:=F133_4_B p c d) (D:=F133_4_D) (fun i r=> if i=d then r else subv p r row (nth r c)) (by omega) (fun i hi s hs hk=>?_) (fun i s=> rfl)]
 ·unfold jD
  congr 1
  have:l.set d row=l:=by
   rw[←hrow,qE hd]; exact List.set_getElem_self hd
  rw[this]
 ·have h1:s[i]'(by omega)=l[i]:=by
   have:=hk i;rw[if_neg (Nat.lt_irrefl _),List.getElem?_eq_getElem (by omega),List.getElem?_eq_getElem hi]at this;exact wA this
  have h2:s[d]'(by omega)=row:=by
   have:=hk d;rw[List.getElem?_eq_getElem (by omega),List.getElem?_eq_getElem hd]at this;rw[←hrow,qE hd];split at this
   ·simpa using this
   ·exact wA this
  unfold F133_4_B;by_cases e:i=d
  ·subst e
   rw[if_pos rfl,if_pos rfl,←h1,List.set_getElem_self]
  ·have hr:=hl _ (wC hi)
   have hrc:=hr.rng c hc;rw[if_neg (by omega),if_neg e,qt (show i < s.length by omega),ob,qt (show d < s.length by omega),ob,h1,h2,jh (by rw[hr.len]; exact hc),ob,F139_eq hp hrc hr hdr hw,ob,qW (by omega),ob]
theorem F133_ech{p:Int}{w:Nat}(hp:IsP p){rows:List (List Int)}(hr:Rows p w rows)(hw:w≤1048576)(hn:rows.length≤1000000):∃out,F133 p rows=some out∧qV p w rows out:=by
 have hpr:=hp.range;have hp1:1 < p:=by omega
 unfold F133;rw[cpy_loop (l:=rows) (B:=F133_1_B rows) (D:=F133_1_D) (by omega) (fun i hi s hs=> by
  unfold F133_1_B;have:=hr _ (wC hi);rw[qt hi,ob,F96_eq (by rw[this.len]; exact hw),ob,qM (by simp; omega) (by simp; omega),ob]) (fun i s=> rfl),ob]
 by_cases h0:(rows.length:Int)=0
 ·rw[if_pos h0]
  have:rows=[]:=vB (by omega);subst this;exact⟨_,rfl,.nil p w⟩
 rw[if_neg h0];have hpos:0 < rows.length:=by omega
 have e0:=qt hpos;simp only[Int.natCast_zero]at e0;have hw0:=(hr _ (wC hpos)).len;rw[show(0:Int)=((0:Nat):Int) from rfl,qt hpos,ob];obtain⟨t,g1,g2,g3,g4⟩:=qC (B:=F133_2_B p) (D:=F133_2_D) (hi:=(rows[0].length:Int)) w (by rw[hw0]) (by omega) (fun c s=>∃d:Nat,s.2=d∧d < s.1.length∧s.1.length=rows.length∧GInv p w rows c s.1 d)
  (fun t=> qV p w rows (t.1.take t.2.toNat)∧0≤t.2∧t.2≤t.1.length) (s:=(rows,0)) ⟨0,rfl,hpos,rfl,.start hr⟩ (by
  rintro c ⟨l,dd⟩ hc ⟨d,p1,p2,p3,g⟩;simp only at p1 p2 p3 g;subst p1;have hrl:∀x∈l.drop d,(fun r=> F137 r (c:Int)) x=some (!decide (nth x c=0)):=fun x hx=> by
   have hx':=g.ok x (yB hx);show F137 x c=_;unfold F137;rw[jh (by rw[hx'.len]; exact hc),ob]
  obtain⟨at_,a1,a2⟩:=F128_first (fun x=> !decide (nth x c=0)) (l:=l.drop d) (by simp; omega) hrl;unfold F133_2_B;simp only;rw[if_pos ⟨by omega,by omega⟩,vJ,a1,ob];rcases a2 with⟨rfl,a2⟩|⟨m,rfl,a2,a3⟩
  ·rw[if_pos (by decide)]
   left;refine⟨_,rfl,d,rfl,p2,p3,g.skip hc fun i h1 h2=>?_⟩;have hx:qn l i∈l.drop d:=by
    rw[qE h2,List.mem_iff_getElem];exact⟨i - d,by simp; omega,by simp[show d+(i - d)=i by omega]⟩
   simpa using a2 _ hx
  ·have hml:m < l.length - d:=by simpa using a2
   have hj:d+m < l.length:=by omega
   have hrm:qn (l.drop d) m=qn l (d+m):=by rw[qE a2,qE hj,List.getElem_drop]
   rw[hrm]at a3;have hne:nth (qn l (d+m)) c≠0:=by simpa using a3
   have hrj:=g.ok _ (zB hj);have hrg:=hrj.rng c hc;obtain⟨k,k1,k2,k3,k4⟩:=F138_eq hp (x:=nth (qn l (d+m)) c) (by omega) hrg.2
   -- the swapped list
   have h2l:((l.set d (qn l (d+m))).set (d+m) (qn l d)).length=l.length:=by simp
   have h2:∀i,i < l.length→qn ((l.set d (qn l (d+m))).set (d+m) (qn l d)) i=qn l (if i=d+m then d else if i=d then d+m else i):=fun i hi=> by
    rw[qE (by simp; exact hi)];by_cases e:i=d+m
    ·subst e; rw[if_pos rfl]; simp
    ·rw[if_neg e,List.getElem_set_ne (yN e)]
     by_cases e2:i=d
     ·subst e2; rw[if_pos rfl]; simp
     ·rw[if_neg e2,List.getElem_set_ne (yN e2),qE hi]
   have gp:=g.put hp1 hc (show d≤d+m by omega) hj k4 h2l h2;have hrd:qn ((l.set d (qn l (d+m))).set (d+m) (qn l d)) d=qn l (d+m):=by
    rw[h2 d p2];by_cases e:d=d+m
    ·rw[if_pos e,←e]
    ·rw[if_neg e,if_pos rfl]
   generalize hl2:(l.set d (qn l (d+m))).set (d+m) (qn l d)=l2 at*;have hsc:=scl_loop hpr ⟨k2,k3⟩ hrj hw (B:=F133_3_B p k) (D:=F133_3_D) (fun i row=> rfl) (fun i s=> rfl);have ok2:Rows p w (l2.set d (scl p (qn l (d+m)) k)):=fun r hr'=> by
    rcases List.mem_or_eq_of_mem_set hr' with q|q
    ·obtain⟨i,hi,rfl⟩:=mem_row.1 q
     rw[h2 i (by omega)];refine g.ok _ (zB ?_);split
     ·exact p2
     ·split
      ·exact hj
      ·omega
    ·rw[q]; exact scl_ok (by omega) hrj k
   have hs3:(l2.set d (scl p (qn l (d+m)) k)).length=l.length:=by simp[h2l]
   have hr3:qn (l2.set d (scl p (qn l (d+m)) k)) d=scl p (qn l (d+m)) k:=by rw[qE (by omega)]; simp
   have hgl:=gstep_loop hpr ok2 (show d < _ by omega) hr3 hc hw (by omega);have hgs:jD p c d (scl p (qn l (d+m)) k) (l2.set d (scl p (qn l (d+m)) k))=jD p c d (scl p (qn l (d+m)) k) l2:=by unfold jD; rw[List.set_set]
   rw[hgs]at hgl;have hlen4:(jD p c d (scl p (qn l (d+m)) k) l2).length=l.length:=by rw[gstep_len]; exact h2l
   have e1:getI l ((d+m:Nat):Int)=some (qn l (d+m)):=by rw[qt hj,qE hj]
   have e2:getI l (d:Int)=some (qn l d):=by rw[qt p2,qE p2]
   have e3:getI l2 (d:Int)=some (qn l (d+m)):=by rw[qt (by omega),←qE (by omega),hrd]
   rw[if_neg (by omega),qg (by omega) (by omega),ob,show(d:Int)+(m:Int)=((d+m:Nat):Int) by omega,e1,ob,e2,ob,qW p2,ob,qW (by simp; omega),ob,hl2,e3,ob,
    jh (by rw[hrj.len]; exact hc),ob,k1,ob,hsc,ob,qW (by omega),ob,hgl,ob,qg (by omega) (by omega),ob]
   by_cases hd1:(d:Int)+1=((jD p c d (scl p (qn l (d+m)) k) l2).length:Int)
   ·right
    rw[if_pos hd1];refine⟨_,rfl,?_,by simp only; omega,by simp only; omega⟩;simp only;rw[show((d:Int)+1).toNat=d+1 by omega];exact gp.done hp1 (.inr (by omega))
   ·left
    rw[if_neg hd1];refine⟨_,rfl,d+1,by simp only; omega,by simp only; have:=gp.dn; omega,by simp only; omega,gp⟩) (by
  rintro⟨l,dd⟩ ⟨d,p1,p2,p3,g⟩;simp only at p1 p2 p3 g;subst p1;refine⟨_,rfl,?_,by simp only; omega,by simp only; omega⟩;simp only;rw[vJ];exact g.done hp1 (.inl rfl))
 rw[show((0:Nat):Int)=(0:Int) from rfl,g1,ob,if_pos ⟨g3,g4⟩];exact⟨_,rfl,g2⟩
theorem zC{p:Int}{w:Nat}(hp:IsP p){rows:List (List Int)}(hr:Rows p w rows)(hw:w≤1048576)(hn:rows.length≤1000000):∃out,F131 p rows=some out∧F133 p rows=some out∧qV p w rows out:=by
 obtain⟨a,a1,a2⟩:=F131_ech hp hr hw hn;obtain⟨b,b1,b2⟩:=F133_ech hp hr hw hn;have:=a2.same (by have:=hp.range; omega) b2;subst this;exact⟨a,a1,b1,a2⟩
theorem F133_self{p:Int}{w:Nat}(hp:IsP p){E:List (List Int)}(h:Red p w E)(hw:w≤1048576)(hn:E.length≤1000000):F133 p E=some E:=by
 obtain⟨X, -,x2,x3⟩:=zC hp h.ok hw hn;rw[x2,x3.same (by have:=hp.range; omega) (qV.self h)]
theorem jJ{p:Int}{w:Nat}{E:List (List Int)}(h:Red p w E):E.length≤w:=by
 have h1:=h.leads;have key:∀ (l:List Nat) (b:Nat),l.Pairwise (·< ·)→(∀x∈l,b≤x∧x < w)→l.length+b≤max w b:=by
  intro l;induction l with
  |nil=> intro b _ _; simp; omega
  |cons a l ih=>
   intro b hp hx;obtain⟨p1,p2⟩:=vH.1 hp;have ha:=hx a wG;have:=ih (a+1) p2 fun x hx'=>⟨p1 x hx',(hx x (wH _ hx')).2⟩;simp only[vD];omega
 have:=key (E.map ld) 0 h1 fun x hx=> by
  obtain⟨r,hr,rfl⟩:=wK.1 hx;exact⟨vO _,(h.one r hr).1⟩
 simpa using this
theorem set_app_right{r s:List Int}{i:Nat}(x:Int):(r++s).set (r.length+i) x=r++s.set i x:=by
 rw[yR _ _ (by omega)]; simp
theorem F125_1_eq{p:Int}{w:Nat}{rows:List (List Int)}(hr:Rows p w rows){x2:List Int}(hx:x2.length=w)(hw:w≤1000)(hn:rows.length≤1000):
  forR 0 (rows.length:Int) (F125_1_B p rows x2) (F125_1_D p rows x2) []=some (jr rows.length rows):=by
 have hl:=longs_len rows.length rows;obtain⟨t,g1,g2⟩:=qC (B:=F125_1_B p rows x2) (D:=F125_1_D p rows x2) rows.length rfl (by omega) (fun i s=> s=(jr rows.length rows).take i) (fun t=> t=jr rows.length rows) (s:=[]) (by simp) (by
  rintro i s hi rfl;left;have hri:=hr _ (wC hi);refine⟨(jr rows.length rows).take (i+1),?_,rfl⟩;unfold F125_1_B appZ;have hz:List.replicate ((rows.length:Int)).toNat (0:Int)=zv rows.length:=by simp[zv]
  have hzl:(zv rows.length).length=rows.length:=by simp[zv]
  have e:((x2.length:Int)+(i:Int))=((rows[i].length+i:Nat):Int):=by rw[hx,hri.len]; omega
  rw[qt hi,ob,F96_eq (by rw[hri.len]; omega),ob,if_pos ⟨by omega,by omega,by omega⟩,hz,qM (by rw[hri.len,hzl]; omega) (by rw[hri.len,hzl]; omega),ob,qg (by rw[hx]; omega) (by rw[hx]; omega),ob,e,qt (by rw[wL,hzl]; omega),ob,
   qW (by rw[wL,hzl]; omega),ob,qM (by simp; omega) (by simp; omega),ob,set_app_right]
  congr 2
  rw[←wY (show i < (jr rows.length rows).length by omega),longs_at,qE hi];rfl) (by
  rintro s rfl;exact⟨_,rfl,by rw[wM (by omega)]⟩)
 rw[g1,g2]
theorem F122_1_eq{p:Int}{w:Nat}{rows:List (List Int)}(hr:Rows p w rows)(hw:w≤1000)(hn:rows.length≤1000):
  forR 0 (rows.length:Int) (F122_1_B p rows.length rows) (F122_1_D p rows.length rows) ([],0)=some (jr rows.length rows,if rows.length=0 then 0 else(w:Int)):=by
 have hl:=longs_len rows.length rows;obtain⟨t,g1,g2⟩:=qC (B:=F122_1_B p rows.length rows) (D:=F122_1_D p rows.length rows) rows.length rfl (by omega) (fun i s=> s=((jr rows.length rows).take i,if i=0 then 0 else(w:Int))) (fun t=> t=(jr rows.length rows,if rows.length=0 then 0 else(w:Int))) (s:=([],0)) (by simp) (by
  rintro i s hi rfl;left;have hri:=hr _ (wC hi);refine⟨((jr rows.length rows).take (i+1),if i+1=0 then 0 else(w:Int)),?_,rfl⟩;unfold F122_1_B;simp only;have hzl:(zv rows.length).length=rows.length:=by simp[zv]
  rw[mkL_ok rows.length rfl (by omega) (by omega),ob]
  change (getI (zv rows.length) (i:Int)).bind _=_
  rw[qt (by omega),ob]
  change (setI (zv rows.length) (i:Int) 1).bind _=_
  rw[qW (by omega),ob,qt hi,ob,F94_eq (by rw[hri.len]; omega),ob,qM (by simp[zv,hri.len]; omega) (by simp[zv,hri.len]; omega),ob,qM (by simp; omega) (by simp; omega),ob,if_neg (by omega),hri.len]
  congr 3
  rw[←wY (show i < (jr rows.length rows).length by omega),longs_at,qE hi];rfl) (by
  rintro s rfl;exact⟨_,rfl,by rw[wM (by omega)]⟩)
 rw[g1,g2]
theorem tails_take{w i:Nat}{E:List (List Int)}(hi:i < E.length):zV w (E.take (i+1))=if w≤ld E[i]then zV w (E.take i)++[E[i].drop w]else zV w (E.take i):=by
 unfold zV;rw[←wY hi,List.filter_append,yE];by_cases h:w≤ld E[i]
 ·rw[if_pos h]; simp[h]
 ·rw[if_neg h]; simp[h]
theorem tails_len{w:Nat}{E:List (List Int)}:(zV w E).length≤E.length:=by
 unfold zV;rw[wQ]; exact List.length_filter_le _ _
theorem F122_2_eq{p:Int}{w n:Nat}{E:List (List Int)}(h:Red p (w+n) E)(hw:w+n≤10000):
  forR 0 (E.length:Int) (xx w E) (kn w E) []=some (zV w E):=by
 have hE:=jJ h;obtain⟨t,g1,g2⟩:=qC (B:=xx w E) (D:=kn w E) E.length rfl (by omega) (fun i s=> s=zV w (E.take i)) (fun t=> t=zV w E) (s:=[]) (by simp[zV]) (by
  rintro i s hi rfl;left;have hk:=h.ok _ (wC hi);have ho:=h.one _ (wC hi);have htl:(zV w (E.take i)).length≤10000:=by have:=tails_len (w:=w) (E:=E.take i); simp at this; omega
  refine⟨zV w (E.take (i+1)),?_,rfl⟩;rw[tails_take hi];unfold xx;rw[qt hi,ob,F81_ld (by rw[hk.len]; omega),if_pos (by rw[hk.len]; exact ho.1),ob];by_cases q:w≤ld E[i]
  ·rw[if_pos (by omega),if_pos q]
   unfold slI;rw[if_pos ⟨by omega,by rw[hk.len]; omega,yG _⟩,ob,vJ,vJ,vI,F94_eq (by simp[hk.len]; omega),ob,qM (by simp; omega) (by simp; omega),ob]
  ·rw[if_neg (by omega),if_neg q]) (by
  rintro s rfl;exact⟨_,rfl,by rw[vI]⟩)
 rw[g1,g2]
theorem isZero_take{r:List Int}{w:Nat}(h:w≤r.length):(∀x∈r.take w,x=0)↔w≤ld r:=by
 constructor
 ·intro hx
  refine Nat.le_of_not_lt fun q=>?_;have hl:ld r < r.length:=by omega
  refine ld_ne hl (by rw[qO hl]; exact hx _ (List.mem_take_iff_getElem.2 ⟨ld r,by omega,rfl⟩))
 ·intro q x hx
  obtain⟨i,hi,rfl⟩:=List.mem_take_iff_getElem.1 hx;have:=zD (r:=r) (j:=i) (by omega)
  rwa[qO (by omega)]at this
theorem F125_2_eq{p:Int}{w n:Nat}{E:List (List Int)}(h:Red p (w+n) E)(hw:w+n≤10000){x2:List Int}(hx:x2.length=w):
  forR 0 (E.length:Int) (F125_2_B p x2 E) (F125_2_D p x2 E) []=some (zV w E):=by
 have hE:=jJ h;obtain⟨t,g1,g2⟩:=qC (B:=F125_2_B p x2 E) (D:=F125_2_D p x2 E) E.length rfl (by omega) (fun i s=> s=zV w (E.take i)) (fun t=> t=zV w E) (s:=[]) (by simp[zV]) (by
  rintro i s hi rfl;left;have hk:=h.ok _ (wC hi);have ho:=h.one _ (wC hi);have htl:(zV w (E.take i)).length≤10000:=by have:=tails_len (w:=w) (E:=E.take i); simp at this; omega
  refine⟨zV w (E.take (i+1)),?_,rfl⟩;rw[tails_take hi];unfold F125_2_B slI;rw[qt hi,ob,hx,if_pos ⟨by omega,by omega,by rw[hk.len]; omega⟩,ob,vJ,Int.toNat_zero,vM];rcases((F92_tells (l:=E[i].take w) (by simp; omega)).iff (isZero_take (by rw[hk.len]; omega))).case with⟨e,q⟩|⟨e,q⟩
  ·rw[e,ob,if_pos rfl,if_pos q,if_pos ⟨by omega,by rw[hk.len]; omega,yG _⟩,ob,vJ,vI,qM (by simp; omega) (by simp; omega),ob]
  ·rw[e,ob,if_neg wD,if_neg q]) (by
  rintro s rfl;exact⟨_,rfl,by rw[vI]⟩)
 rw[g1,g2]
theorem kernel_same{p:Int}{w:Nat}(hp:IsP p){rows:List (List Int)}(hr:Rows p w rows)(hw:w≤1000)(hn:rows.length≤1000):∃K,F122 p rows.length rows=some K∧F125 p rows=some K∧Red p rows.length K:=by
 have hp1:1 < p:=by have:=hp.range; omega
 unfold F122 F125;rw[F122_1_eq hr hw hn,ob];simp only;by_cases h0:rows.length=0
 ·have:rows=[]:=vB h0
  subst this;have e:(jr ([]:List (List Int)).length [])=[]:=by simp[jr]
  obtain⟨E,e1, -,e3⟩:=zC hp (rows:=[]) (w:=0+0) (fun r h=>(nomatch h)) (by omega) (by simp);have hE:E=[]:=vB (by have:=jJ e3.red; omega);subst hE;rw[e,e1,ob,if_pos (by simp),if_pos (by simp)];have:=F122_2_eq (w:=0) (n:=0) e3.red (by omega);have h2:forR 0 ((([]:List (List Int)).length:Nat):Int) (xx 0 []) (kn 0 []) []=some []:=this;rw[h2];exact⟨[],rfl,rfl,⟨fun r h=>(nomatch h),fun r h=>(nomatch h),.nil⟩⟩
 ·rw[if_neg h0,if_neg (by omega)]
  obtain⟨E,e1,e2,e3⟩:=zC hp (longs_ok hp1 hr) (by omega) (by rw[longs_len]; omega);have hpos:0 < rows.length:=by omega
  have hx0:=(hr _ (wC hpos)).len;have ht:=tails_red e3.red;rw[show(0:Int)=((0:Nat):Int) from rfl,qt hpos,ob,show((0:Nat):Int)=(0:Int) from rfl,e1,ob,F122_2_eq e3.red (by omega),ob,F125_1_eq hr hx0 hw hn,ob,e2,ob,F125_2_eq e3.red (by omega) hx0,ob,F133_self hp ht (by omega) (by have:=jJ ht; omega),ob];exact⟨_,rfl,rfl,ht⟩
theorem RowOK.vec{p w:Int}{row:List Int}(h:RowOK p w row):qH p w.toNat row:=by
 have h1:=h.1;refine⟨by omega,fun j hj=>?_⟩;have hj':j < row.length:=by omega
 rw[qO hj'];have:=h.2 _ (wC hj');omega
theorem qp.dim{x:qa}(h:qp x){n:Nat}(hn:n < x.Dims.length):0≤x.Dims.getD n 0∧x.Dims.getD n 0≤8:=h.dims _ (qG hn 0)
theorem F99_at{x:qa}(hs:x.Dims.length≤1048576){n:Nat}(hn:n < x.Dims.length):F99 x (n:Int)=some (x.Dims.getD n 0):=by
 unfold F99;rw[qg (by omega) (by omega),ob,jM,ob,if_pos (by simp; omega),qj hn 0,ob]
theorem F102_at{x:qa}(hs:x.Dims.length≤1048576){n:Nat}(hn:n < x.Dims.length):F102 x (n:Int)=some (x.Dims.getD n 0):=by
 unfold F102;rw[xk hs,ob,F56_eq,ob,if_pos (by simp; omega),qj hn 0,ob]
theorem F124_eq{n:Nat}(hn:n≤1000):F124 (n:Int)=some (zn n):=by
 unfold F124;have hl:=jW n;obtain⟨t,g1,g2⟩:=qC (B:=F124_1_B (n:Int)) (D:=F124_1_D (n:Int)) n rfl (by omega) (fun i s=> s=(zn n).take i) (fun t=> t=zn n) (s:=[]) (by simp) (by
  rintro i s hi rfl;left;refine⟨(zn n).take (i+1),?_,rfl⟩;have hzl:(zv n).length=n:=by simp[zv]
  unfold F124_1_B F132;rw[mkL_ok n rfl (by omega) (by omega),ob]
  change (((getI (zv n) (i:Int)).bind _).bind _=_)
  rw[qt (by omega),ob]
  change (((setI (zv n) (i:Int) 1).bind _).bind _=_)
  rw[qW (by omega),ob,ob,qM (by simp; omega) (by simp; omega),ob]
  congr 2
  rw[←wY (show i < (zn n).length by omega)]
  congr 2
  simp[zn,jV]) (by
  rintro s rfl;exact⟨_,rfl,by rw[wM (by omega)]⟩)
 rw[g1,ob,g2]
theorem kernel_none{p:Int}(hp:IsP p){n:Nat}(hn:n≤1000):F122 p (n:Int) (List.replicate n [])=some (zn n):=by
 have hp1:1 < p:=by have:=hp.range; omega
 have hr:Rows p 0 (List.replicate n ([]:List Int)):=fun r hr=> by
  obtain⟨_,rfl⟩:=List.mem_replicate.1 hr;exact⟨rfl,fun j hj=> absurd hj (uF _)⟩
 have hl:(List.replicate n ([]:List Int)).length=n:=by simp
 have e0:=F122_1_eq hr (by omega) (by omega);rw[hl]at e0;have hlong:jr n (List.replicate n ([]:List Int))=zn n:=by
  unfold jr zn;refine yF fun i hi=>?_;have:i < n:=wV.1 hi;simp[qn,this]
 have hu:=units_red hp1 n;obtain⟨E,e1, -,e3⟩:=zC hp hu.ok (by omega) (by rw[jW]; omega);have hE:=e3.same hp1 (qV.self hu);subst hE;have ht:zV 0 (zn n)=zn n:=by
  unfold zV;rw[List.filter_eq_self.2 (fun r _=> by simp)]
  conv=> rhs; rw[←List.map_id (zn n)]
  exact yF fun r _=> rfl
 have h2:=F122_2_eq (w:=0) (n:=n) (by rw[wS]; exact hu) (by omega);rw[ht]at h2;have h2':forR 0 ((zn n).length:Int) (xx 0 (zn n)) (kn 0 (zn n)) []=some (zn n):=h2;unfold F122;rw[e0,ob];have hz:(if n=0 then(0:Int)else((0:Nat):Int))=0:=by split <;> rfl
 simp only;rw[hz,hlong,e1,ob,h2',ob]
theorem F76_0{x:qa}(hs:x.Dims.length≤1048576)(hl:0 < x.Dims.length){n:Nat}(hn:x.Dims.getD 0 0=n)(hn8:n≤1000):F76 x 0=some (List.replicate n []):=by
 unfold F76;rw[qg (by omega) (by omega),ob,jM,ob,if_neg (by simp)];have h99:F99 x 0=some (n:Int):=by have:=F99_at hs hl; rw[hn]at this; exact this
 obtain⟨t,g1,g2⟩:=qU (S:=kj x 0) (fun s=>(n - s.2).toNat) (fun s=> 0≤s.2∧s.2≤n∧s.1=List.replicate s.2.toNat []) (fun t=> t=List.replicate n []) (s:=([],0)) ⟨yG _,by omega,rfl⟩ (by
  rintro⟨l,j⟩ ⟨p1,p2,p3⟩;simp only at p1 p2 p3;subst p3;unfold kj;simp only;rw[h99,ob];by_cases hj:j < (n:Int)
  ·left
   rw[if_pos hj,qM (by simp; omega) (by simp; omega),ob,qg (by omega) (by omega),ob];refine⟨_,rfl,⟨by simp only; omega,by simp only; omega,?_⟩,by simp only; omega⟩;simp only;rw[show(j+1).toNat=j.toNat+1 from by omega,List.replicate_succ']
  ·right
   rw[if_neg hj];have:j.toNat=n:=by omega
   rw[this];exact⟨_,rfl,rfl⟩)
 rw[g1,ob,g2]
def coll{β:Type}(n:Nat)(f:Nat→List β):List β:=(List.range n).flatMap f
theorem xL{β:Type}(n:Nat)(f:Nat→List β):coll (n+1) f=coll n f++f n:=by
 unfold coll; rw[uH,List.flatMap_append]; simp
theorem coll_len{β:Type}{f:Nat→List β}(h:∀i,(f i).length≤1):∀n,(coll n f).length≤n
 |0=> by simp[coll]
 |n+1=> by rw[xL,wL]; have:=coll_len h n; have:=h n; omega
theorem forR_coll{β:Type}{n:Nat}(f:Nat→List β){B:Int→List β→Option (List β⊕List β)}{D:Int→List β→Option (List β)}(hn:n≤1000000)(h1:∀i,(f i).length≤1)
  (hB:∀ (i:Nat) (s:List β),i < n→s.length≤i→B i s=some (.inl (s++f i))) (hD:∀i s,D i s=some s):forR 0 (n:Int) B D []=some (coll n f):=by
 have hlen:n < 4611686018427387904:=by omega
 obtain⟨t,g1,g2⟩:=qC (B:=B) (D:=D) n rfl hlen (fun i s=> s=coll i f) (fun t=> t=coll n f) (s:=[]) (by simp[coll]) (by
  rintro i s hi rfl;left;exact⟨_,hB i _ hi (coll_len h1 i),(xL i f).symm⟩) (by
  rintro s rfl;exact⟨_,hD _ _,rfl⟩)
 rw[g1,g2]
theorem loopW_coll{β:Type}{n:Nat}(f:Nat→List β){S:List β×Int→Option ((List β×Int)⊕List β)}(h1:∀i,(f i).length≤1)
  (hB:∀ (i:Nat) (s:List β),i < n→s.length≤i→S (s,(i:Int))=some (.inl (s++f i,(i:Int)+1))) (hD:∀s:List β,S (s,(n:Int))=some (.inr s)):ze S ([],0)=some (coll n f):=by
 obtain⟨t,g1,g2⟩:=qU (S:=S) (fun s=>(n - s.2).toNat) (fun s=>∃i:Nat,s.2=i∧i≤n∧s.1=coll i f) (fun t=> t=coll n f) (s:=([],0)) ⟨0,rfl,vO _,by simp[coll]⟩ (by
  rintro⟨s,j⟩ ⟨i,p1,p2,p3⟩;simp only at p1 p3;subst p1; subst p3;by_cases hi:i < n
  ·left
   refine⟨_,hB i _ hi (coll_len h1 i),⟨i+1,by simp,hi,(xL i f).symm⟩,by simp only; omega⟩
  ·right
   have:i=n:=by omega
   subst this;exact⟨_,hD _,rfl⟩)
 rw[g1,g2]
theorem IsP.inv{p:Int}(hp:IsP p):HasInv p:=by
 intro a h0 h1;have key:∀k m:Int,a*k=1+p*m→∃k,Cg p (a*k) 1:=fun k m e=>⟨k,m,by omega⟩;unfold IsP at hp;rcases hp with rfl|rfl|rfl|rfl
 ·have:a=1:=by omega
  subst this; exact key 1 0 (by decide)
 ·have:a=1∨a=2:=by omega
  rcases this with rfl|rfl
  ·exact key 1 0 (by decide)
  ·exact key 2 1 (by decide)
 ·have:a=1∨a=2∨a=3∨a=4:=by omega
  rcases this with rfl|rfl|rfl|rfl
  ·exact key 1 0 (by decide)
  ·exact key 3 1 (by decide)
  ·exact key 2 1 (by decide)
  ·exact key 4 3 (by decide)
 ·have:a=1∨a=2∨a=3∨a=4∨a=5∨a=6:=by omega
  rcases this with rfl|rfl|rfl|rfl|rfl|rfl
  ·exact key 1 0 (by decide)
  ·exact key 4 1 (by decide)
  ·exact key 5 2 (by decide)
  ·exact key 2 1 (by decide)
  ·exact key 3 2 (by decide)
  ·exact key 6 5 (by decide)
theorem kernel_full{p:Int}{w:Nat}(hp:IsP p){rows:List (List Int)}(hr:Rows p w rows)(hw:w≤1000)(hn:rows.length≤1000):∃K,F122 p rows.length rows=some K∧F125 p rows=some K∧Red p rows.length K∧∀c,Sp p rows.length K c↔qH p rows.length c∧∀j,j < w→Cg p (dot (nth c) rows rows.length j) 0:=by
 have hp1:1 < p:=by have:=hp.range; omega
 unfold F122 F125;rw[F122_1_eq hr hw hn,ob];simp only;by_cases h0:rows.length=0
 ·have:rows=[]:=vB h0
  subst this;have e:(jr ([]:List (List Int)).length [])=[]:=by simp[jr]
  obtain⟨E,e1, -,e3⟩:=zC hp (rows:=[]) (w:=0+0) (fun r h=>(nomatch h)) (by omega) (by simp);have hE:E=[]:=vB (by have:=jJ e3.red; omega);subst hE;rw[e,e1,ob,if_pos (by simp),if_pos (by simp)];have:=F122_2_eq (w:=0) (n:=0) e3.red (by omega);have h2:forR 0 ((([]:List (List Int)).length:Nat):Int) (xx 0 []) (kn 0 []) []=some []:=this;rw[h2];refine⟨[],rfl,rfl,⟨fun r h=>(nomatch h),fun r h=>(nomatch h),.nil⟩,fun c=>⟨fun hc=>⟨hc.ok (by omega) (fun r h=> absurd h yI),fun j _=> .refl _ _⟩,fun hc=>?_⟩⟩;have:c=zv 0:=vB hc.1.len;rw[this];exact .zero
 ·rw[if_neg h0,if_neg (by omega)]
  obtain⟨E,e1,e2,e3⟩:=zC hp (longs_ok hp1 hr) (by omega) (by rw[longs_len]; omega);have hpos:0 < rows.length:=by omega
  have hx0:=(hr _ (wC hpos)).len;have ht:=tails_red e3.red;rw[show(0:Int)=((0:Nat):Int) from rfl,qt hpos,ob,show((0:Nat):Int)=(0:Int) from rfl,e1,ob,F122_2_eq e3.red (by omega),ob,F125_1_eq hr hx0 hw hn,ob,e2,ob,F125_2_eq e3.red (by omega) hx0,ob,F133_self hp ht (by omega) (by have:=jJ ht; omega),ob];exact⟨_,rfl,rfl,ht,fun c=> kernel_sp hp1 hr e3⟩
theorem lin_at{p:Int}{n:Nat}{v:List Int}{m:List (List Int)}(H:LinOK p n v m){j:Nat}(hj:j < n):Cg p (nth (lin p n v m) j) (dot (nth v) m v.length j):=by
 have key:∀i,i≤v.length→Cg p (nth (linN p n v m i) j) (dot (nth v) m i j):=by
  intro i;induction i with
  |zero=> intro _; simp only[linN]; rw[show nth (List.replicate n (0:Int)) j=0 from zh n j]; exact .refl _ _
  |succ i ih=>
   intro hi;obtain⟨h1,h2⟩:=linN_ok H i (by omega);have hm:i < m.length:=by have:=H.hl; omega
   have hr:=H.hr _ (wC hm);have e1:v.getD i 0=v[i]:=by simp[show i < v.length by omega]
   have e2:m.getD i []=m[i]:=by simp[hm]
   have hx:=H.hv _ (wC (show i < v.length by omega));have ho:=h2 _ (wC (show j < (linN p n v m i).length by omega));have hy:=hr.2 _ (wC (show j < m[i].length by omega));obtain⟨-, -,t1, -⟩:=small_mul H.hp hx hy ho;have e3:nth (linN p n v m (i+1)) j=((linN p n v m i)[j]+v[i]*(m[i])[j]).tmod p:=by
    simp only[linN,e1,e2];rw[qO (by unfold addRow; rw[List.length_zipWith,h1,hr.1]; omega)];simp[addRow]
   have h0:0≤(linN p n v m i)[j]+v[i]*(m[i])[j]:=by have:=Int.mul_nonneg hx.1 hy.1; omega
   rw[e3,vU h0];refine(Cg.mod _ _).trans ?_;show Cg p _ (sumI _ (i+1));unfold sumI;refine .add ?_ ?_
   ·have:=ih (by omega)
    rwa[qO (by omega)]at this
   ·rw[qO (show i < v.length by omega),qE hm,qO (show j < m[i].length by omega)]; exact .refl _ _
 exact key v.length (wE _)
theorem units_sp{p:Int}(hp:1 < p){n:Nat}{v:List Int}(hv:qH p n v):Sp p n (zn n) v:=by
 have hp0:0 < p:=by omega
 have hu:=units_red hp n;refine(rest_zero hp0 hu hv).1 ((xQ hp0 hu.ok hv).ext (ja hp0 n) fun j hj=>?_);have hm:jV n j∈zn n:=wK.2 ⟨j,wV.2 hj,rfl⟩;have:=rest_lead hp0 hu hv _ hm;rw[ld_unit hj]at this;rw[this,zh]; exact .refl _ _
def LTells(o:Option (Unit⊕(Unit⊕Bool)))(P:Prop):Prop:=∃b:Bool,o=some (if b=true then .inl ()else .inr (.inr false))∧(b=true↔P)
theorem LTells.iff{o:Option (Unit⊕(Unit⊕Bool))}{P Q:Prop}(h:LTells o P)(e:P↔Q):LTells o Q:=by
 obtain⟨b,h1,h2⟩:=h; exact⟨b,h1,h2.trans e⟩
def WTells(o:Option (Int⊕(Unit⊕Bool)))(i:Int)(P:Prop):Prop:=∃b:Bool,o=some (if b=true then .inl (i+1)else .inr (.inr false))∧(b=true↔P)
theorem WTells.iff{o:Option (Int⊕(Unit⊕Bool))}{i:Int}{P Q:Prop}(h:WTells o i P)(e:P↔Q):WTells o i Q:=by
 obtain⟨b,h1,h2⟩:=h; exact⟨b,h1,h2.trans e⟩
theorem F76_eq{x:qa}(hs:x.Dims.length≤1048576){k:Nat}(h:k+1 < x.Dims.length)(hm:k < x.Maps.length):F76 x ((k+1:Nat):Int)=some (x.Maps.getD k []):=by
 unfold F76;have e:(((k+1:Nat):Int) - 1)=(k:Int):=by omega
 rw[qg (by omega) (by omega),ob,jM,ob,if_pos (by simp; omega),qg (by omega) (by omega),ob,e,qj hm [],ob]
def dc(x:qa)(n:Nat):Nat:=(x.Dims.getD n 0).toNat
theorem jK{x:qa}(h:qp x)(n:Nat):dc x n≤8:=by
 unfold dc;by_cases hn:n < x.Dims.length
 ·have:=h.dim hn; omega
 ·rw[List.getD_eq_getElem?_getD,List.getElem?_eq_none (by omega)]; simp
theorem dc_at{x:qa}(h:qp x){n:Nat}(hn:n < x.Dims.length):x.Dims.getD n 0=(dc x n:Int):=by
 have:=h.dim hn;unfold dc; omega
theorem F99_dc{x:qa}(hx:qw x)(h:qp x){n:Nat}(hn:n≤x.Dims.length):F99 x (n:Int)=some (dc x n:Int):=by
 have hd:=hx.d;by_cases c:n < x.Dims.length
 ·rw[F99_at hx.d c,dc_at h c]
 ·have e:n=x.Dims.length:=by omega
  subst e;have:dc x x.Dims.length=0:=by unfold dc; rw[List.getD_eq_getElem?_getD,List.getElem?_eq_none (by omega)]; rfl
  unfold F99;rw[qg (by omega) (by omega),ob,jM,ob,if_neg (by simp; omega),this];rfl
theorem F102_dc{x:qa}(hx:qw x)(h:qp x){n:Nat}(hn:n≤x.Dims.length):F102 x (n:Int)=some (dc x n:Int):=by
 have hd:=hx.d;by_cases c:n < x.Dims.length
 ·rw[F102_at hx.d c,dc_at h c]
 ·have e:n=x.Dims.length:=by omega
  subst e;have:dc x x.Dims.length=0:=by unfold dc; rw[List.getD_eq_getElem?_getD,List.getElem?_eq_none (by omega)]; rfl
  unfold F102;rw[xk hx.d,ob,F56_eq,ob,if_neg (by simp; omega),this];rfl
noncomputable def hm(x:qa)(n:Nat):Int:=(F283 x (n:Int)).getD 0
structure TabN (p:Int) (c w:Nat) (m:List (List Int)):Prop where
 len:m.length=c
 rows:Rows p w m
theorem TabN.of{p:Int}{c w:Nat}{m:List (List Int)}(T:TableOK p (c:Int) (w:Int) m):TabN p c w m:=⟨by have:=T.1; omega,fun r hr=>(T.2 r hr).vec⟩
structure PT (s0 ms:T3s) (φ:Nat→Nat→Nat→Nat×Nat×Nat) (val:Nat→Nat→Nat→Int) (D:Nat→Nat→Nat→Prop) (s:T3s):Prop where
 shp:Shp s s0
 at':∀k i j,InT ms k i j→(D k i j→zg s (φ k i j).1 (φ k i j).2.1 (φ k i j).2.2=val k i j)∧(¬D k i j→zg s (φ k i j).1 (φ k i j).2.1 (φ k i j).2.2=zg s0 (φ k i j).1 (φ k i j).2.1 (φ k i j).2.2)
 out:∀a b c,InT s0 a b c→(∀k i j,InT ms k i j→φ k i j≠(a,b,c))→zg s a b c=zg s0 a b c
theorem PT.imp{s0 ms:T3s}{φ:Nat→Nat→Nat→Nat×Nat×Nat}{val:Nat→Nat→Nat→Int}{D D':Nat→Nat→Nat→Prop}{s:T3s}(h:PT s0 ms φ val D s)(hd:∀k i j,InT ms k i j→(D k i j↔D' k i j)):PT s0 ms φ val D' s:=
 ⟨h.shp,fun k i j hin=>⟨fun d=>(h.at' k i j hin).1 ((hd k i j hin).2 d),fun d=>(h.at' k i j hin).2 fun x=> d ((hd k i j hin).1 x)⟩,h.out⟩
theorem PT.zero{s0 ms:T3s}{φ:Nat→Nat→Nat→Nat×Nat×Nat}{val:Nat→Nat→Nat→Int}:PT s0 ms φ val (fun _ _ _=> False) s0:=⟨.refl _,fun k i j _=>⟨fun x=> x.elim,fun _=> rfl⟩,fun _ _ _ _ _=> rfl⟩
theorem PT.step{s0 ms:T3s}{φ:Nat→Nat→Nat→Nat×Nat×Nat}{val:Nat→Nat→Nat→Int}(hi:∀k i j,InT ms k i j→InT s0 (φ k i j).1 (φ k i j).2.1 (φ k i j).2.2)(hinj:∀k i j k' i' j',InT ms k i j→InT ms k' i' j'→φ k i j=φ k' i' j'→k=k'∧i=i'∧j=j')
  {D D':Nat→Nat→Nat→Prop} {s:T3s} (h:PT s0 ms φ val D s) {k i j:Nat} (hin:InT ms k i j) (hd:∀k' i' j',D' k' i' j'↔D k' i' j'∨(k'=k∧i'=i∧j'=j)):PT s0 ms φ val D' (put3 s (φ k i j).1 (φ k i j).2.1 (φ k i j).2.2 (val k i j)):=by
 have hs:=h.shp.inT (hi k i j hin);refine⟨(put3_shp hs _).trans h.shp,fun k' i' j' hin'=>?_,fun a b c habc hne=>?_⟩
 ·rw[put3_at hs]
  by_cases e:k'=k∧i'=i∧j'=j
  ·obtain⟨rfl,rfl,rfl⟩:=e
   rw[if_pos ⟨rfl,rfl,rfl⟩];exact⟨fun _=> rfl,fun d=> absurd ((hd _ _ _).2 (.inr ⟨rfl,rfl,rfl⟩)) d⟩
  ·rw[if_neg fun q=> e (hinj k' i' j' k i j hin' hin (Prod.ext q.1 (Prod.ext q.2.1 q.2.2)))]
   refine⟨fun d=>(h.at' _ _ _ hin').1 (((hd _ _ _).1 d).resolve_right e),fun d=>(h.at' _ _ _ hin').2 fun x=> d ((hd _ _ _).2 (.inl x))⟩
 ·rw[put3_at hs,if_neg fun q=> hne k i j hin (Prod.ext q.1.symm (Prod.ext q.2.1.symm q.2.2.symm))]
  exact h.out a b c habc hne
theorem F85_put{s0 ms:T3s}{φ:Nat→Nat→Nat→Nat×Nat×Nat}{val:Nat→Nat→Nat→Int}(hs:SmallT ms)(hi:∀k i j,InT ms k i j→InT s0 (φ k i j).1 (φ k i j).2.1 (φ k i j).2.2)(hinj:∀k i j k' i' j',InT ms k i j→InT ms k' i' j'→φ k i j=φ k' i' j'→k=k'∧i=i'∧j=j')
  {g:Int→Int→Int→Int→T3s→Option T3s} (hg:∀ (k i j:Nat) s,InT ms k i j→Shp s s0→zg s (φ k i j).1 (φ k i j).2.1 (φ k i j).2.2=zg s0 (φ k i j).1 (φ k i j).2.1 (φ k i j).2.2→g ((k:Int)+1) i j (zg ms k i j) s=some (put3 s (φ k i j).1 (φ k i j).2.1 (φ k i j).2.2 (val k i j))):
  ∃r,F85 ms g s0=some r∧PT s0 ms φ val (fun _ _ _=> True) r:=by
 unfold F85;have hm:=hs.m;have hl1:ms.length < 4611686018427387904:=by omega
 refine qC (τ:=T3s) (σ:=T3s) ms.length rfl hl1 (fun n s=> PT s0 ms φ val (fun k _ _=> k < n) s) _ (PT.zero.imp fun k i j _=> by simp) ?_ ?_
 ·intro k s hk hI
  left;rw[qj hk [],ob];have hmem:ms.getD k []∈ms:=qG hk [];have hmr:=hs.r _ hmem;have hl2:(ms.getD k []).length < 4611686018427387904:=by have:=hmr.1; omega
  suffices hx:∃t,forR 0 ((ms.getD k []).length:Int) _ _ s=some t∧PT s0 ms φ val (fun k' _ _=> k' < k+1) t by
   obtain⟨t,g1,g2⟩:=hx;rw[g1,ob];exact⟨t,rfl,g2⟩
  refine qC (τ:=T3s) (σ:=T3s) (ms.getD k []).length rfl hl2 (fun n s=> PT s0 ms φ val (fun k' i _=> k' < k∨(k'=k∧i < n)) s) _ (hI.imp fun k i j _=> by simp) ?_ ?_
  ·intro i s hi' hI2
   left;rw[qj hi' [],ob];have hmem2:(ms.getD k []).getD i []∈ms.getD k []:=qG hi' [];have hl3:((ms.getD k []).getD i []).length < 4611686018427387904:=by have:=hmr.2 _ hmem2; omega
   suffices hx:∃t,forR 0 (((ms.getD k []).getD i []).length:Int) _ _ s=some t∧PT s0 ms φ val (fun k' i' _=> k' < k∨(k'=k∧i' < i+1)) t by
    obtain⟨t,g1,g2⟩:=hx;rw[g1,ob];exact⟨t,rfl,g2⟩
   refine qC (τ:=T3s) (σ:=T3s) ((ms.getD k []).getD i []).length rfl hl3 (fun n s=> PT s0 ms φ val (fun k' i' j=> k' < k∨(k'=k∧(i' < i∨(i'=i∧j < n)))) s) _ (hI2.imp fun k i j _=> by simp) ?_ ?_
   ·intro j s hj hI3
    left;have hin:InT ms k i j:=⟨hk,hi',hj⟩;have hnd:¬(k < k∨(k=k∧(i < i∨(i=i∧j < j)))):=by omega
    have hold:=(hI3.at' k i j hin).2 hnd;rw[qj hj 0,ob,qg (by omega) (by omega),ob];have e':g ((k:Int)+1) i j (((ms.getD k []).getD i []).getD j 0) s=_:=hg k i j s hin hI3.shp hold;refine⟨_,by rw[e',ob],hI3.step hi hinj hin fun k' i' j'=> by omega⟩
   ·intro s hI3
    refine⟨s,rfl,hI3.imp fun k' i' j' hin'=>?_⟩;constructor
    ·omega
    ·intro q
     by_cases e:k'=k∧i'=i
     ·obtain⟨rfl,rfl⟩:=e
      have hj:=hin'.2.2;omega
     ·omega
  ·intro s hI2
   refine⟨s,rfl,hI2.imp fun k' i' j' hin'=>?_⟩;constructor
   ·omega
   ·intro q
    by_cases e:k'=k
    ·subst e
     have hj:=hin'.2.1;omega
    ·omega
 ·intro s hI
  refine⟨s,rfl,hI.imp fun k i j hin=>?_⟩;have:=hin.1;simp[this]
theorem F75_zero{p:Int}(hp:2≤p∧p≤7){s:T3s}{k i j:Nat}{v:Int}(h:InT s k i j)(hk:k≤1048576)(ho:zg s k i j=0)(hv: -p < v∧v < p):
  F75 p ((k:Int)+1) i j v s=some (put3 s k i j (v% p)):=by
 obtain⟨h1,h2,h3⟩:=h;have e1:((k:Int)+1 - 1)=(k:Int):=by omega
 have ho':((s.getD k []).getD i []).getD j 0=0:=ho;have e2:(v.tmod p+p).tmod p=v% p:=by
  rcases Int.le_total 0 v with q|q
  ·rw[vU q,vP q hv.2,vU (by omega),Int.add_emod_right,vP q hv.2]
  ·have:v.tmod p=v:=by
    rw[←Int.neg_neg v,Int.neg_tmod,vU (by omega),vP (by omega) (by omega)]
   rw[this,vU (by omega),Int.add_emod_right]
 have hb: -7 < v.tmod p∧v.tmod p < 7:=by
  have h1:=yW v (show 0 < p by omega);have h2:=yW (-v) (show 0 < p by omega);rw[Int.neg_tmod]at h2;omega
 unfold F75;rw[qg (by omega) (by omega),ob,e1,qj h1 [],ob,qj h2 [],ob,qj h3 0,ob,ho',Int.zero_add,qg (by omega) (by omega),ob,jb (by omega),ob,qg (by omega) (by omega),ob,jb (by omega),ob,e2,qW h3,ob,qW h2,ob,qW h1];rfl
theorem F74_2_big{dims:List Int}(o:T3s)(a b:Int)(c:List Int){n:Nat}(h1:1≤n)(hn:n < dims.length)(hs:dims.length≤1048576)(hd:∀d∈dims,0≤d∧d≤1000):
  forR 0 (dims.getD n 0) (F74_2_B dims o a c n b) (F74_2_D dims o a c n b) []=some (zT dims (n - 1)):=by
 have q:=hd _ (qG hn 0);have q':=hd _ (qG (show n - 1 < dims.length by omega) 0);have e1:((n:Int) - 1)=((n - 1:Nat):Int):=by omega
 obtain⟨t,g1,g2⟩:=qC (B:=F74_2_B dims o a c n b) (D:=F74_2_D dims o a c n b) (hi:=dims.getD n 0) (dims.getD n 0).toNat (by omega) (by omega) (fun j s=> s=List.replicate j (List.replicate (dims.getD (n - 1) 0).toNat (0:Int))) (fun t=> t=zT dims (n - 1)) (s:=[]) (by simp) (by
  rintro j s hj rfl;left;refine⟨List.replicate (j+1) (List.replicate (dims.getD (n - 1) 0).toNat (0:Int)),?_,rfl⟩;unfold F74_2_B;rw[qg (by omega) (by omega),ob,e1,qj (show n - 1 < dims.length by omega) 0,ob,mkL_ok (dims.getD (n - 1) 0).toNat (by omega) (by omega) (by omega),ob,qM (by simp; omega) (by simp; omega),ob,List.replicate_succ']) (by
  rintro s rfl;refine⟨_,rfl,?_⟩;unfold zT;rw[show n - 1+1=n by omega])
 rw[g1,g2]
theorem F74_big{p:Int}{dims:List Int}(h1:1≤dims.length)(hs:dims.length≤1048576)(hd:∀d∈dims,0≤d∧d≤1000):F74 p dims=some ⟨p,dims,zM dims⟩:=by
 have hlen:dims.length < 4611686018427387904:=by omega
 unfold F74;obtain⟨t,g1,g2⟩:=forR_from (B:=F74_1_B dims) (D:=F74_1_D dims) 1 dims.length rfl rfl h1 hlen (fun n s=> 1≤n∧s=((List.range (n - 1)).map (zT dims),p,dims)) (fun t=> t=(zM dims,p,dims)) (s:=([],p,dims)) ⟨wE _,rfl⟩ (by
  rintro n s hn ⟨hn1,rfl⟩;left;refine⟨((List.range n).map (zT dims),p,dims),?_,by omega,rfl⟩;unfold F74_1_B;simp only;rw[qj hn 0,ob,F74_2_big _ _ _ _ hn1 hn hs hd,ob,qM (by simp; omega) (by simp; omega),ob];obtain⟨m,rfl⟩:∃m,n=m+1:=⟨n - 1,by omega⟩;rw[uH,yE]; rfl) (by
  rintro s ⟨_,rfl⟩;exact⟨_,rfl,rfl⟩)
 have g1':forR 1 (dims.length:Int) (F74_1_B dims) (F74_1_D dims) ([],p,dims)=some t:=g1;rw[g1',g2,ob]
theorem inT_zM{dims:List Int}{k i j:Nat}:InT (zM dims) k i j↔k+1 < dims.length∧i < (dims.getD (k+1) 0).toNat∧j < (dims.getD k 0).toNat:=by
 have hl:(zM dims).length=dims.length - 1:=by simp[zM]
 unfold InT;rw[hl];constructor
 ·rintro⟨h1,h2,h3⟩
  rw[zM_at h1]at h2 h3;have h2':i < (dims.getD (k+1) 0).toNat:=by unfold zT at h2; rwa[uB]at h2
  have e:(zT dims k).getD i []=List.replicate (dims.getD k 0).toNat (0:Int):=by
   unfold zT at h2 ⊢;rw[List.getD_eq_getElem?_getD,List.getElem?_eq_getElem h2,List.getElem_replicate]; rfl
  rw[e,uB]at h3;exact⟨by omega,h2',h3⟩
 ·rintro⟨h1,h2,h3⟩
  have h1':k < dims.length - 1:=by omega
  rw[zM_at h1'];have h2':i < (zT dims k).length:=by unfold zT; rwa[uB]
  have e:(zT dims k).getD i []=List.replicate (dims.getD k 0).toNat (0:Int):=by
   unfold zT at h2' ⊢;rw[List.getD_eq_getElem?_getD,List.getElem?_eq_getElem h2',List.getElem_replicate]; rfl
  exact⟨h1',h2',by rw[e,uB]; exact h3⟩
theorem zM_zero{dims:List Int}{k i j:Nat}(hin:InT (zM dims) k i j):zg (zM dims) k i j=0:=by
 obtain⟨h1,h2,h3⟩:=hin;have hk:k < dims.length - 1:=by simpa[zM]using h1
 rw[zM_at hk]at h2 h3;unfold zg;rw[zM_at hk];unfold zT at h2 h3 ⊢;have e:(List.replicate (dims.getD (k+1) 0).toNat (List.replicate (dims.getD k 0).toNat (0:Int))).getD i []=List.replicate (dims.getD k 0).toNat (0:Int):=by
  rw[List.getD_eq_getElem?_getD,List.getElem?_eq_getElem h2,List.getElem_replicate]; rfl
 rw[e]at h3 ⊢;rw[List.getD_eq_getElem?_getD,List.getElem?_eq_getElem h3,List.getElem_replicate]; rfl
structure Fam (x y:qa) (f:T3s):Prop where
 sx:qw x
 sy:qw y
 sf:SmallT f
 vx:qp x
 vy:qp y
 pp:y.Prime=x.Prime
 l:y.Dims.length=x.Dims.length
 fl:f.length=x.Dims.length
 t:∀n,n < x.Dims.length→TabN x.Prime (dc x n) (dc y n) (f.getD n [])
theorem xJ{x:qa}{n:Nat}(h:x.Dims.length≤n):dc x n=0:=by
 unfold dc; rw[List.getD_eq_getElem?_getD,List.getElem?_eq_none h]; rfl
theorem qX{x:qa}(h:qp x){k i j:Nat}:InT x.Maps k i j↔k+1 < x.Dims.length∧i < dc x (k+1)∧j < dc x k:=by
 have hml:=h.ml;have hdl:=h.dl;unfold InT;constructor
 ·rintro⟨h1,h2,h3⟩
  have ht:=h.tab k h1;have a:=ht.1;have b:=(ht.2 _ (qG h2 [])).1;unfold dc;exact⟨by omega,by omega,by omega⟩
 ·rintro⟨h1,h2,h3⟩
  have h1':k < x.Maps.length:=by omega
  have ht:=h.tab k h1';have a:=ht.1;unfold dc at h2 h3;have h2':i < (x.Maps.getD k []).length:=by omega
  have b:=(ht.2 _ (qG h2' [])).1;exact⟨h1',h2',by omega⟩
theorem Fam.inT{x y:qa}{f:T3s}(F:Fam x y f){k i j:Nat}:InT f k i j↔k < x.Dims.length∧i < dc x k∧j < dc y k:=by
 have hfl:=F.fl;unfold InT;constructor
 ·rintro⟨h1,h2,h3⟩
  have ht:=F.t k (by omega);have a:=ht.len;have b:=(ht.rows _ (qG h2 [])).len;exact⟨by omega,by omega,by omega⟩
 ·rintro⟨h1,h2,h3⟩
  have ht:=F.t k h1;have a:=ht.len;have h2':i < (f.getD k []).length:=by omega
  have b:=(ht.rows _ (qG h2' [])).len;exact⟨by omega,h2',by omega⟩
theorem row_ok{p:Int}{c w:Nat}{m:List (List Int)}(T:TabN p c w m){i:Nat}(h:i < c):qH p w (qn m i):=T.rows _ (zB (by rw[T.len]; exact h))
theorem ji{x:qa}(h:qp x){k:Nat}(hk:k+1 < x.Dims.length):TabN x.Prime (dc x (k+1)) (dc x k) (x.Maps.getD k []):= .of (by
 have:=h.tab k (by have:=h.ml; omega);unfold jL at this
 rwa[dc_at h hk,dc_at h (show k < x.Dims.length by omega)]at this)
structure zw (x:qa):Prop where
 p:IsP x.Prime
 dl:1≤x.Dims.length∧x.Dims.length≤100
 ml:x.Maps.length+1=x.Dims.length
 dims:∀d∈x.Dims,0≤d∧d≤100
 tab:∀k,k < x.Maps.length→jL x k
theorem zw.dim{x:qa}(h:zw x){n:Nat}(hn:n < x.Dims.length):0≤x.Dims.getD n 0∧x.Dims.getD n 0≤100:=h.dims _ (qG hn 0)
theorem qp.wide{x:qa}(h:qp x):zw x:=⟨h.p,⟨h.dl.1,by have:=h.dl.2; omega⟩,h.ml,fun d hd=> by have:=h.dims d hd; omega,h.tab⟩
theorem dc_lew{x:qa}(h:zw x)(n:Nat):dc x n≤100:=by
 unfold dc;by_cases hn:n < x.Dims.length
 ·have:=h.dim hn; omega
 ·rw[List.getD_eq_getElem?_getD,List.getElem?_eq_none (by omega)]; simp
theorem cycles_wide{x:qa}(hx:qw x)(h:zw x){n:Nat}(hn:n < x.Dims.length):∃K,F98 x (n:Int)=some K∧F100 x (n:Int)=some K∧Red x.Prime (x.Dims.getD n 0).toNat K:=by
 have hp1:1 < x.Prime:=by have:=h.p.range; omega
 have hd:=h.dim hn;have hml:=h.ml;have hxd:=hx.d;unfold F98 F100;rw[F99_at hx.d hn,ob];rcases Nat.eq_zero_or_pos n with h0|h0
 ·subst h0
  have hdn:x.Dims.getD 0 0=((x.Dims.getD 0 0).toNat:Int):=by omega
  rw[if_pos (by omega),show((0:Nat):Int)=0 from rfl,F76_0 hx.d hn hdn (by omega),ob,hdn,vJ,kernel_none h.p (by omega),ob];have h102:=F102_at hx.d hn;rw[hdn]at h102;rw[show(0:Int)=((0:Nat):Int) from rfl,h102,ob,F124_eq (by omega),ob];exact⟨_,rfl,rfl,units_red hp1 _⟩
 ·obtain⟨k,rfl⟩:∃k,n=k+1:=⟨n - 1,by omega⟩
  have hk:k < x.Maps.length:=by omega
  have ht:=h.tab k hk;have hdk:=h.dim (show k < x.Dims.length by omega);have e1:getI x.Maps (k:Int)=some (x.Maps.getD k []):=qj hk [];have hr:Rows x.Prime (x.Dims.getD k 0).toNat (x.Maps.getD k []):=fun r hr=>(ht.2 r hr).vec;have h76:F76 x ((k+1:Nat):Int)=some (x.Maps.getD k []):=by
   unfold F76;rw[qg (by omega) (by omega),ob,jM,ob,if_pos (by simp; omega),qg (by omega) (by omega),ob,show((k+1:Nat):Int) - 1=(k:Int) by omega,e1,ob]
  have hlen:=ht.1;obtain⟨K,k1,k2,k3⟩:=kernel_same h.p hr (by omega) (by omega);rw[h76,ob,←hlen,k1,ob,if_neg (by omega),xk hx.d,ob,if_neg (by omega),qg (by omega) (by omega),ob,show((k+1:Nat):Int) - 1=(k:Int) by omega,e1,ob,k2,ob,vJ];exact⟨_,rfl,rfl,k3⟩
theorem dc_atw{x:qa}(h:zw x){n:Nat}(hn:n < x.Dims.length):x.Dims.getD n 0=(dc x n:Int):=by
 have:=h.dim hn;unfold dc; omega
theorem F99_dcw{x:qa}(hx:qw x)(h:zw x){n:Nat}(hn:n≤x.Dims.length):F99 x (n:Int)=some (dc x n:Int):=by
 have hd:=hx.d;by_cases c:n < x.Dims.length
 ·rw[F99_at hx.d c,dc_atw h c]
 ·have e:n=x.Dims.length:=by omega
  subst e;have:dc x x.Dims.length=0:=by unfold dc; rw[List.getD_eq_getElem?_getD,List.getElem?_eq_none (by omega)]; rfl
  unfold F99;rw[qg (by omega) (by omega),ob,jM,ob,if_neg (by simp; omega),this];rfl
theorem bounds_wide{x:qa}(hx:qw x)(h:zw x){n:Nat}(hn:n < x.Dims.length):∃B,F251 x (n:Int)=some B∧F186 x (n:Int)=some B∧Red x.Prime (dc x n) B:=by
 have hd:=hx.d;have hml:=h.ml;have hdl:=h.dl;unfold F251 F186;rw[qg (by omega) (by omega),ob,if_neg (by omega),xk hx.d,ob];by_cases c:n+1 < x.Dims.length
 ·have ht:=h.tab n (by omega)
  have hr:Rows x.Prime (dc x n) (x.Maps.getD n []):=fun r hr=>(ht.2 r hr).vec;have hl:=ht.1;have hd1:=h.dim c;have:=dc_lew h n;obtain⟨B,b1,b2,b3⟩:=zC h.p hr (by omega) (by omega);rw[show(n:Int)+1=((n+1:Nat):Int) by omega,F76_eq hx.d c (by omega),ob,b1,ob,if_neg (by omega),qj (show n < x.Maps.length by omega) [],ob,b2,ob];exact⟨B,rfl,rfl,b3.red⟩
 ·obtain⟨N,n1, -,n3⟩:=zC (p:=x.Prime) (w:=dc x n) h.p (rows:=[]) (fun r hr=>(nomatch hr)) (by have:=dc_lew h n; omega) (by simp)
  have hN:N=[]:=by have:=n3.same (by have:=h.p.range; omega) (qV.nil x.Prime (dc x n)); exact this
  subst hN;have e:F76 x ((n:Int)+1)=some []:=by
   unfold F76;rw[qg (by omega) (by omega),ob,jM,ob,if_neg (by simp; omega)];have h99:=F99_dcw hx h (n:=n+1) (by omega);have h0:dc x (n+1)=0:=by unfold dc; rw[List.getD_eq_getElem?_getD,List.getElem?_eq_none (by omega)]; rfl
   rw[h0]at h99;obtain⟨t,g1,g2⟩:=qU (S:=kj x ((n:Int)+1)) (fun s=> 0) (fun s=> s=([],0)) (fun t=> t=[]) (s:=([],0)) rfl (by
    rintro s rfl;right;unfold kj;simp only;rw[show(n:Int)+1=((n+1:Nat):Int) by omega,h99,ob,if_neg (by simp)];exact⟨_,rfl,rfl⟩)
   rw[g1,ob,g2]
  rw[e,ob,n1,ob,if_pos (by omega)];exact⟨[],rfl,rfl,n3.red⟩
theorem hm_eqw{x:qa}(hx:qw x)(h:zw x){n:Nat}(hn:n < x.Dims.length):F283 x (n:Int)=some (hm x n)∧F168 x (n:Int)=some (hm x n)∧hm x n≤100:=by
 obtain⟨K,k1,k2,k3⟩:=cycles_wide hx h hn;obtain⟨B,b1,b2,b3⟩:=bounds_wide hx h hn;have hK:=jJ k3;have hB:=jJ b3;have hd:=dc_lew h n;have hdd:dc x n=(x.Dims.getD n 0).toNat:=rfl;have e1:F283 x (n:Int)=some ((K.length:Int) - (B.length:Int)):=by
  unfold F283;rw[k1,ob,b1,ob,qg (by omega) (by omega),ob]
 have e2:F168 x (n:Int)=some ((K.length:Int) - (B.length:Int)):=by
  unfold F168;rw[k2,ob,b2,ob,qg (by omega) (by omega),ob]
 have e3:hm x n=(K.length:Int) - (B.length:Int):=by unfold hm; rw[e1]; rfl
 rw[e1,e2,e3];exact⟨rfl,rfl,by omega⟩
theorem xU{p:Int}(hp:IsP p){c w:Nat}{m:List (List Int)}(hml:m.length=c)(hm:Rows p w m)(hc:c≤1000)(hw:w≤1000){v:List Int}(hv:qH p c v):LinOK p w v m:=by
 have hvl:=hv.len;exact⟨hp.range,fun y hy=> by
  obtain⟨k,hk,rfl⟩:=wT hy;have:=hv.rng k (by omega)
  rwa[qO hk]at this,by omega,fun l hl=>⟨(hm l hl).len,fun y hy=> by
  have hl':=hm l hl;have hll:=hl'.len;obtain⟨k,hk,rfl⟩:=wT hy;have:=hl'.rng k (by omega)
  rwa[qO hk]at this⟩,by omega,by omega⟩
theorem xT{p:Int}{w:Nat}{m:List (List Int)}{v:List Int}(H:LinOK p w v m):qH p w (lin p w v m):=by
 have hok:=linN_ok H v.length (wE _);refine⟨hok.1,fun j hj=>?_⟩;have hj':j < (lin p w v m).length:=by rw[lin_len H]; exact hj
 rw[qO hj'];exact hok.2 _ (wC hj')
theorem nth_take{l:List Int}{k j:Nat}(h:j < k):nth (l.take k) j=nth l j:=by
 unfold nth;rw[List.getD_eq_getElem?_getD,List.getD_eq_getElem?_getD,List.getElem?_take_of_lt h]
theorem take_vec{p:Int}{a b:Nat}{c:List Int}(hc:qH p (a+b) c):qH p a (c.take a):=
 ⟨by rw[vG,hc.len]; omega,fun j hj=> by rw[nth_take hj]; exact hc.rng j (by omega)⟩
theorem lin_take{p:Int}(hp:IsP p){a b w:Nat}{m:List (List Int)}(hml:m.length=a)(hm:Rows p w m)(ha:a≤1000)(hw:w≤1000):Lin p (a+b) w fun c=> lin p w (c.take a) m:=by
 have hp0:0 < p:=by have:=hp.range; omega
 have H:=fun c (hc:qH p (a+b) c)=> xU hp hml hm ha hw (take_vec hc);have hat:=fun c (hc:qH p (a+b) c) j (hj:j < w)=> lin_at (H c hc) hj;refine⟨fun c hc=> xT (H c hc),fun u v k hu hv=>?_⟩;have h1:=qT hp0 hu.len hv.len (k:=k);have d1:=xT (H u hu);have d2:=xT (H v hv);refine(xT (H _ h1)).ext (qT hp0 d1.len d2.len) fun j hj=>?_;have e:∀c,qH p (a+b) c→(c.take a).length=a:=fun c hc=>(take_vec hc).len;refine(hat _ h1 j hj).trans ?_;rw[e _ h1];refine(dot_cg (g:=fun i=> nth (u.take a) i - k*nth (v.take a) i) fun i hi=>?_).trans ?_
 ·rw[nth_take hi,nth_take hi,nth_take hi]
  exact zi hu.len hv.len (by omega)
 ·rw[dot_lin]
  have q1:=hat u hu j hj;have q2:=hat v hv j hj;rw[e u hu]at q1;rw[e v hv]at q2;exact Cg.symm ((zi d1.len d2.len hj).trans (.sub q1 (.mul (.refl _ _) q2)))
theorem appZ_ok{l:List Int}{n:Nat}(h1:l.length≤1000)(h2:n≤1000):appZ 8 l (n:Int) 0=some (l++zv n):=by
 unfold appZ;rw[if_pos (by omega),vJ,qM (by simp; omega) (by simp; omega)];rfl
theorem F246_eq{d:List Int}(h:d.length≤1000):∃b:Bool,F246 d=some b∧(b=true↔∀n,n < d.length→d.getD n 0≤8):=by
 unfold F246 F82 F115;obtain⟨t,g1,g2⟩:=qC (B:=kp d (fun x=> F278 x)) (D:=F115_1_D d (fun x=> F278 x)) (hi:=(d.length:Int)) d.length rfl (by omega) (fun i _=>∀k,k < i→d.getD k 0≤8) (fun t=>(t= .inl ()∧∀n,n < d.length→d.getD n 0≤8)∨∃i:Nat,t= .inr (i:Int)∧i < d.length∧8 < d.getD i 0) (s:=()) (fun k hk=> by omega) (by
  rintro i _ hi hI;unfold kp F278;rw[qj hi 0,ob,ob];by_cases c2:8 < d.getD i 0
  ·right
   rw[if_pos (by simp; simpa using c2)];exact⟨_,rfl,.inr ⟨i,rfl,hi,c2⟩⟩
  ·left
   rw[if_neg (by simpa using c2)];refine⟨_,rfl,fun k hk=>?_⟩;by_cases c:k=i
   ·subst c; omega
   ·exact hI k (by omega)) (by
  rintro _ hI;exact⟨_,rfl,.inl ⟨rfl,hI⟩⟩)
 rw[g1,ob];rcases g2 with⟨rfl,g3⟩|⟨i,rfl,hi,g3⟩
 ·exact⟨true,rfl,fun _=> g3,fun _=> rfl⟩
 ·refine⟨false,?_,fun c=> by(cases c),fun q=> by have:=q i hi; omega⟩
  simp
theorem app_rows{p:Int}{w:Nat}{A B:List (List Int)}(hA:Rows p w A)(hB:Rows p w B):Rows p w (A++B):=fun r hr=>(wW.1 hr).elim (hA r) (hB r)
theorem cyc_wide{x:qa}(hx:qw x)(h:zw x){n:Nat}(hn:n < x.Dims.length):∃K,F98 x (n:Int)=some K∧F100 x (n:Int)=some K∧Red x.Prime (dc x n) K∧
  ∀v,qH x.Prime (dc x n) v→(∀k,n=k+1→∀j,j < dc x k→Cg x.Prime (dot (nth v) (x.Maps.getD k []) (x.Maps.getD k []).length j) 0)→Sp x.Prime (dc x n) K v:=by
 have hp1:1 < x.Prime:=by have:=h.p.range; omega
 have hd:=h.dim hn;have hml:=h.ml;have hxd:=hx.d;unfold F98 F100;rw[F99_at hx.d hn,ob];rcases Nat.eq_zero_or_pos n with h0|h0
 ·subst h0
  have hdn:x.Dims.getD 0 0=(dc x 0:Int):=dc_atw h hn;rw[if_pos (by omega),show((0:Nat):Int)=0 from rfl,F76_0 hx.d hn hdn (by omega),ob,hdn,kernel_none h.p (by omega),ob];have h102:=F102_at hx.d hn;rw[hdn]at h102;rw[show(0:Int)=((0:Nat):Int) from rfl,h102,ob,F124_eq (by omega),ob];exact⟨_,rfl,rfl,units_red hp1 _,fun v hv _=> units_sp hp1 hv⟩
 ·obtain⟨k,rfl⟩:∃k,n=k+1:=⟨n - 1,by omega⟩
  have hk:k < x.Maps.length:=by omega
  have ht:=h.tab k hk;have hdk:=h.dim (show k < x.Dims.length by omega);have e1:getI x.Maps (k:Int)=some (x.Maps.getD k []):=qj hk [];have hr:Rows x.Prime (dc x k) (x.Maps.getD k []):=fun r hr=>(ht.2 r hr).vec;have h76:F76 x ((k+1:Nat):Int)=some (x.Maps.getD k []):=by
   unfold F76;rw[qg (by omega) (by omega),ob,jM,ob,if_pos (by simp; omega),qg (by omega) (by omega),ob,show((k+1:Nat):Int) - 1=(k:Int) by omega,e1,ob]
  have hlen:=ht.1;have hdc:dc x (k+1)=(x.Maps.getD k []).length:=by unfold dc; omega
  have hw:=dc_lew h k;obtain⟨K,k1,k2,k3,k4⟩:=kernel_full h.p hr (by omega) (by omega);rw[h76,ob,←hlen,k1,ob,if_neg (by omega),xk hx.d,ob,if_neg (by omega),qg (by omega) (by omega),ob,show((k+1:Nat):Int) - 1=(k:Int) by omega,e1,ob,k2,ob,hdc];exact⟨_,rfl,rfl,k3,fun v hv q=>(k4 v).2 ⟨hv,q k rfl⟩⟩
theorem sq_dot{x:qa}(h:qp x){k i j:Nat}(hk:k+2 < x.Dims.length)(hi:i < dc x (k+2))(hj:j < dc x k):Cg x.Prime (dot (nth (qn (x.Maps.getD (k+1) []) i)) (x.Maps.getD k []) (dc x (k+1)) j) 0:=by
 have hml:=h.ml;have T2:=ji h (k:=k+1) hk;have T1:=ji h (k:=k) (by omega);have hr:=row_ok T2 hi;have d0:=jK h k;have d1:=jK h (k+1);have H:LinOK x.Prime (dc x k) (qn (x.Maps.getD (k+1) []) i) (x.Maps.getD k []):=xU h.p T1.len T1.rows (by omega) (by omega) hr;have hz:∀y∈lin x.Prime (dc x k) (qn (x.Maps.getD (k+1) []) i) (x.Maps.getD k []),y=0:=by
  have:=h.sq (k+1) (by omega) (by omega) _ (zB (by rw[T2.len]; exact hi));rw[yJ]at this;exact this
 have h1:=lin_at H hj;have hll:=lin_len H;rw[qO (by omega),hz _ (wC (by omega)),hr.len]at h1;exact h1.symm
theorem lin_u40{p:Int}(hp:IsP p){c w:Nat}{m:List (List Int)}(hl:m.length=c)(hm:Rows p w m)(hc:c≤1000)(hw:w≤1000){i:Nat}(hi:i < c):lin p w (jV c i) m=qn m i:=by
 have hp1:1 < p:=by have:=hp.range; omega
 have hv:=unitv_ok hp1 hi;have H:=xU hp hl hm hc hw hv;have hr:=hm _ (zB (by rw[hl]; exact hi));refine(xT H).ext hr fun j hj=>(lin_at H hj).trans ?_;rw[hv.len];have e:dot (nth (jV c i)) m c j=dot (fun k=> if k=i then 1 else 0) m c j:=zL fun k _=> by rw[xR hi]
 rw[e,dot_unit hi];exact .refl _ _
theorem lin_full{p:Int}(hp:IsP p){c w:Nat}{m:List (List Int)}(hl:m.length=c)(hm:Rows p w m)(hc:c≤1000)(hw:w≤1000):Lin p c w fun u=> lin p w u m:=by
 have L:=lin_take hp hl hm hc hw (b:=0);have e:∀u,qH p c u→u.take c=u:=fun u hu=> by rw[←hu.len,vI]
 refine⟨fun u hu=> xT (xU hp hl hm hc hw hu),fun u v k hu hv=>?_⟩;have hp0:0 < p:=by have:=hp.range; omega
 have this:lin p w ((subv p u v k).take c) m=subv p (lin p w (u.take c) m) (lin p w (v.take c) m) k:=L.sub u v k hu hv;rw[e u hu,e v hv,e _ (qT hp0 hu.len hv.len)]at this;exact this
theorem null_count{p:Int}{w n:Nat}(hp:IsP p){rows K E:List (List Int)}(hl:rows.length=n)(hr:Rows p w rows)(hn:n≤1000)(hw:w≤1000)(hK:Red p n K)(hs:∀c,Sp p n K c↔qH p n c∧∀j,j < w→Cg p (dot (nth c) rows rows.length j) 0)(hE:qV p w rows E):K.length+E.length=n:=by
 have hp1:1 < p:=by have:=hp.range; omega
 have hp0:0 < p:=by omega
 have L:=lin_full hp hl hr hn hw;have hz:∀u,qH p n u→(lin p w u rows=zv w↔Sp p n K u):=fun u hu=> by
  have H:=xU hp hl hr hn hw hu;have V:=xT H;rw[hs u];constructor
  ·intro e
   refine⟨hu,fun j hj=>?_⟩;have:=lin_at H hj;rw[e,zh,hu.len,←hl]at this;exact this.symm
  ·rintro⟨-,q⟩
   refine V.ext (ja hp0 w) fun j hj=>?_;have:=lin_at H hj;rw[hu.len,←hl]at this;rw[zh];exact this.trans (q j hj)
 have hU:=units_red hp1 n;have e1:qV p n (K++(zn n).map id) (zn n):=by
  rw[List.map_id];exact⟨hU,fun v=>⟨fun q=> q.mono fun r hr=> vQ _ hr,fun q=> units_sp hp1 (q.ok hp0 (app_rows hK.ok hU.ok))⟩⟩
 have e2:(zn n).map (fun u=> lin p w u rows)=rows:=by
  refine yO (by simp[zn,hl]) fun i h1 h2=>?_;simp only[zn,List.getElem_map,List.getElem_range];rw[lin_u40 hp hl hr hn hw (by omega),qE h2]
 have:=rank_pair hp1 hp.inv hK.ok (qV.self hK) (w':=w) (Z:=zn n) (f:=id) (g:=fun u=> lin p w u rows) (fun z hz=> hU.ok z hz) (fun z hz=> L.ok z (hU.ok z hz)) (fun k hk=>?_) e1 (E':=E) (by rw[e2]; exact hE)
 ·rw[jW]at this; omega
 ·have hT:Rows p n ((zn n).take k):=fun r hr=> hU.ok r (wN hr)
  have hv:=hU.ok _ (wC hk);have hKT:=app_rows hK.ok hT;rw[List.map_id];show Sp p n (K++(zn n).take k) (zn n)[k]↔_;constructor
  ·intro q
   refine Sp.into hp0 (L.rows hT) (fun r hr=>?_) (L.sp hp0 hKT q);obtain⟨b,hb,rfl⟩:=wK.1 hr;rcases wW.1 hb with t|t
   ·rw[(hz b (hK.ok b t)).2 (.mem hp0 hK.ok t)]; exact .zero
   ·exact .mem hp0 (L.rows hT) (wK.2 ⟨b,t,rfl⟩)
  ·intro q
   obtain⟨t,ht,e⟩:=L.lift hp0 hT q;have hto:=ht.ok hp0 hT;have hd:=qT (k:=1) hp0 hv.len hto.len;have hk0:Sp p n K (subv p (zn n)[k] t 1):=(hz _ hd).1 (by
    have h1:lin p w (subv p (zn n)[k] t 1) rows=subv p (lin p w (zn n)[k] rows) (lin p w t rows) 1:=L.sub _ t 1 hv hto;have h2:lin p w t rows=lin p w (zn n)[k] rows:=e;have h3:qH p w (lin p w (zn n)[k] rows):=L.ok _ hv;rw[h1,h2,sub_self hp0 h3])
   have ht':Sp p n (K++(zn n).take k) t:=ht.mono fun r hr=> vQ _ hr;have hk':Sp p n (K++(zn n).take k) (subv p (zn n)[k] t 1):=hk0.mono fun r hr=> yC _ hr;exact(sub_iff hp0 hKT hv ht' 1).1 hk'
noncomputable def rkOf(p:Int)(w:Nat)(m:List (List Int)):Nat:= @dite Nat (∃E,qV p w m E) (Classical.propDecidable _) (fun h=> h.choose.length) fun _=> 0
theorem xy{p:Int}{w:Nat}{m E:List (List Int)}(hp:1 < p)(hE:qV p w m E):rkOf p w m=E.length:=by
 unfold rkOf;have h:∃E,qV p w m E:=⟨E,hE⟩;rw[dif_pos h,h.choose_spec.same hp hE]
noncomputable def rkC(x:qa)(n:Nat):Nat:=if n+1 < x.Dims.length then rkOf x.Prime (dc x n) (x.Maps.getD n [])else 0
theorem cyc_count{x:qa}(hx:qw x)(h:zw x){n:Nat}(hn:n < x.Dims.length):∃K,F98 x (n:Int)=some K∧F100 x (n:Int)=some K∧K.length+(if n=0 then 0 else rkC x (n - 1))=dc x n:=by
 have hp1:1 < x.Prime:=by have:=h.p.range; omega
 have hd:=h.dim hn;have hml:=h.ml;have hxd:=hx.d;unfold F98 F100;rw[F99_at hx.d hn,ob];rcases Nat.eq_zero_or_pos n with h0|h0
 ·subst h0
  have hdn:x.Dims.getD 0 0=(dc x 0:Int):=dc_atw h hn;rw[if_pos (by omega),show((0:Nat):Int)=0 from rfl,F76_0 hx.d hn hdn (by omega),ob,hdn,kernel_none h.p (by omega),ob];have h102:=F102_at hx.d hn;rw[hdn]at h102;rw[show(0:Int)=((0:Nat):Int) from rfl,h102,ob,F124_eq (by omega),ob];exact⟨_,rfl,rfl,by rw[jW,if_pos rfl]; rfl⟩
 ·obtain⟨k,rfl⟩:∃k,n=k+1:=⟨n - 1,by omega⟩
  have hk:k < x.Maps.length:=by omega
  have ht:=h.tab k hk;have hdk:=h.dim (show k < x.Dims.length by omega);have e1:getI x.Maps (k:Int)=some (x.Maps.getD k []):=qj hk [];have hr:Rows x.Prime (dc x k) (x.Maps.getD k []):=fun r hr=>(ht.2 r hr).vec;have h76:F76 x ((k+1:Nat):Int)=some (x.Maps.getD k []):=by
   unfold F76;rw[qg (by omega) (by omega),ob,jM,ob,if_pos (by simp; omega),qg (by omega) (by omega),ob,show((k+1:Nat):Int) - 1=(k:Int) by omega,e1,ob]
  have hlen:=ht.1;have hdc:dc x (k+1)=(x.Maps.getD k []).length:=by unfold dc; omega
  have hw:=dc_lew h k;obtain⟨E,hE, -⟩:=xe hp1 h.p.inv hr;have hrk:rkC x k=E.length:=by unfold rkC; rw[if_pos hn,xy hp1 hE]
  obtain⟨K,k1,k2,k3,k4⟩:=kernel_full h.p hr (by omega) (by omega);have hc:=null_count h.p rfl hr (by omega) (by omega) k3 k4 hE;rw[h76,ob,←hlen,k1,ob,if_neg (by omega),xk hx.d,ob,if_neg (by omega),qg (by omega) (by omega),ob,show((k+1:Nat):Int) - 1=(k:Int) by omega,e1,ob,k2,ob,hdc];exact⟨_,rfl,rfl,by rw[if_neg (by omega),yJ,hrk]; exact hc⟩
theorem bnd_count{x:qa}(hx:qw x)(h:zw x){n:Nat}(hn:n < x.Dims.length):∃B,F251 x (n:Int)=some B∧B.length=rkC x n:=by
 have hp1:1 < x.Prime:=by have:=h.p.range; omega
 have hd:=hx.d;have hml:=h.ml;have hdl:=h.dl;obtain⟨B0,c1,c2,c3⟩:=bounds_wide hx h hn;unfold rkC;by_cases c:n+1 < x.Dims.length
 ·have ht:=h.tab n (by omega)
  have hr:Rows x.Prime (dc x n) (x.Maps.getD n []):=fun r hr=>(ht.2 r hr).vec;have hl:=ht.1;have hd1:=h.dim c;have:=dc_lew h n;obtain⟨B,b1,b2,b3⟩:=zC h.p hr (by omega) (by omega);have e:F251 x (n:Int)=some B:=by
   unfold F251;rw[qg (by omega) (by omega),ob,show(n:Int)+1=((n+1:Nat):Int) by omega,F76_eq hx.d c (by omega),ob,b1,ob]
  exact⟨B,e,by rw[if_pos c,xy hp1 b3]⟩
 ·have e:F186 x (n:Int)=some []:=by
   unfold F186;rw[if_neg (by omega),xk hx.d,ob];by_cases c0:(x.Maps.length:Int)≤(n:Int)
   ·first|rw[if_pos (by omega)]|skip
   ·omega
  rw[e]at c2;have:=wA c2;subst this;exact⟨[],c1,by rw[if_neg c]; rfl⟩
theorem hm_rank{x:qa}(hx:qw x)(h:zw x){n:Nat}(hn:n < x.Dims.length):hm x n+(if n=0 then 0 else rkC x (n - 1):Nat)+rkC x n=dc x n:=by
 obtain⟨K,k1, -,k3⟩:=cyc_count hx h hn;obtain⟨B,b1,b2⟩:=bnd_count hx h hn;have hd:=dc_lew h n;obtain⟨B0,c1, -,c3⟩:=bounds_wide hx h hn;rw[c1]at b1;have:=wA b1;subst this;have hB:=jJ c3;have e:F283 x (n:Int)=some ((K.length:Int) - (B0.length:Int)):=by
  unfold F283;rw[k1,ob,c1,ob,qg (by omega) (by omega),ob]
 have q:hm x n=(K.length:Int) - (B0.length:Int):=by unfold hm; rw[e]; rfl
 rw[q];omega
theorem jU{x:qa}(h:zw x){k:Nat}(hk:k+1 < x.Dims.length):(x.Maps.getD k []).length=dc x (k+1)∧Rows x.Prime (dc x k) (x.Maps.getD k []):=by
 have hml:=h.ml;have ht:=h.tab k (by omega);have hd:=h.dim hk;exact⟨by have:=ht.1; unfold dc; omega,fun r hr=>(ht.2 r hr).vec⟩
theorem dual_rank{x y:qa}(vx:zw x)(hp:y.Prime=x.Prime)(hl:y.Dims.length=x.Dims.length)(hd:∀n,n < x.Dims.length→dc y n=dc x (x.Dims.length - 1 - n))(hm:∀k,k+1 < x.Dims.length→y.Maps.getD k []=cols (dc x (x.Dims.length - 2 - k)) (x.Maps.getD (x.Dims.length - 2 - k) [])){k:Nat}(hk:k+1 < x.Dims.length):rkC y k=rkC x (x.Dims.length - 2 - k):=by
 have hp1:1 < x.Prime:=by have:=vx.p.range; omega
 have hp0:0 < x.Prime:=by omega
 obtain⟨r1,r2⟩:=jU vx (k:=x.Dims.length - 2 - k) (by omega);obtain⟨E,hE, -⟩:=xe hp1 vx.p.inv r2;obtain⟨E',hE', -⟩:=xe hp1 vx.p.inv (cols_ok hp0 r2);have e:=rank_cols hp1 vx.p.inv r2 hE hE';have hw:dc y k=(x.Maps.getD (x.Dims.length - 2 - k) []).length:=by
  rw[hd k (by omega),r1,show x.Dims.length - 2 - k+1=x.Dims.length - 1 - k by omega]
 unfold rkC;rw[if_pos (by omega),if_pos (by omega),hm k hk,hp,hw,xy hp1 hE',xy hp1 hE,e]
theorem dual_hm{x y:qa}(hx:qw x)(hy:qw y)(vx:zw x)(vy:zw y)(hp:y.Prime=x.Prime)(hl:y.Dims.length=x.Dims.length)(hd:∀n,n < x.Dims.length→dc y n=dc x (x.Dims.length - 1 - n))(hm:∀k,k+1 < x.Dims.length→y.Maps.getD k []=cols (dc x (x.Dims.length - 2 - k)) (x.Maps.getD (x.Dims.length - 2 - k) [])){n:Nat}(hn:n < x.Dims.length):Rv.hm y n=Rv.hm x (x.Dims.length - 1 - n):=by
 have a:=hm_rank hy vy (n:=n) (by omega);have b:=hm_rank hx vx (n:=x.Dims.length - 1 - n) (by omega);rw[hd n hn]at a;have e1:rkC y n=if x.Dims.length - 1 - n=0 then 0 else rkC x (x.Dims.length - 1 - n - 1):=by
  by_cases c:n+1 < x.Dims.length
  ·rw[dual_rank vx hp hl hd hm c,if_neg (by omega),show x.Dims.length - 2 - n=x.Dims.length - 1 - n - 1 by omega]
  ·rw[if_pos (by omega)]; unfold rkC; rw[if_neg (by omega)]
 have e2:(if n=0 then 0 else rkC y (n - 1))=rkC x (x.Dims.length - 1 - n):=by
  by_cases c:n=0
  ·rw[if_pos c]; unfold rkC; rw[if_neg (by omega)]
  ·rw[if_neg c,dual_rank vx hp hl hd hm (by omega),show x.Dims.length - 2 - (n - 1)=x.Dims.length - 1 - n by omega]
 rw[e1,e2]at a;omega
theorem shift_hm{x y:qa}(hx:qw x)(hy:qw y)(vx:zw x)(vy:zw y){k:Nat}(hl:y.Dims.length=x.Dims.length+k)(hd0:∀n,n < k→dc y n=0)(hd:∀n,n < x.Dims.length→dc y (n+k)=dc x n)(hr:∀n,n+1 < x.Dims.length→rkC y (n+k)=rkC x n):
  (∀n,n < k→Rv.hm y n=0)∧∀n,n < x.Dims.length→Rv.hm y (n+k)=Rv.hm x n:=by
 have hp1:1 < y.Prime:=by have:=vy.p.range; omega
 -- nothing goes into an empty space
 have zero:∀n,dc y n=0→rkC y n=0:=fun n h0=> by
  unfold rkC;split
  ·rename_i hn
   obtain⟨r1,r2⟩:=jU vy hn;obtain⟨E,hE, -⟩:=xe hp1 vy.p.inv r2;have:=jJ hE.red;rw[xy hp1 hE]; omega
  ·rfl
 have b0:∀n,n < k→Rv.hm y n=0:=fun n hn=> by
  have a:=hm_rank hy vy (n:=n) (by omega);rw[hd0 n hn,zero n (hd0 n hn)]at a;have:(if n=0 then 0 else rkC y (n - 1))=0:=by
   split
   ·rfl
   ·exact zero _ (hd0 _ (by omega))
  rw[this]at a;omega
 refine⟨b0,fun n hn=>?_⟩;have a:=hm_rank hy vy (n:=n+k) (by omega);have b:=hm_rank hx vx hn;rw[hd n hn]at a;have e1:rkC y (n+k)=rkC x n:=by
  by_cases c:n+1 < x.Dims.length
  ·exact hr n c
  ·unfold rkC; rw[if_neg (by omega),if_neg c]
 have e2:(if n+k=0 then 0 else rkC y (n+k - 1))=if n=0 then 0 else rkC x (n - 1):=by
  by_cases c:n=0
  ·subst c
   rw[if_pos rfl];split
   ·rfl
   ·exact zero _ (hd0 _ (by omega))
  ·rw[if_neg (by omega),if_neg c,show n+k - 1=n - 1+k by omega,hr _ (by omega)]
 rw[e1,e2]at a;omega
noncomputable def hmx(x:qa)(n:Nat):Int:=(dc x n:Int) - (if n=0 then 0 else rkC x (n - 1):Nat) - (rkC x n:Int)
theorem hmx_eq{x:qa}(hx:qw x)(h:zw x){n:Nat}(hn:n < x.Dims.length):hm x n=hmx x n:=by
 have:=hm_rank hx h hn;unfold hmx; omega
theorem rkC_out{x:qa}{n:Nat}(h:x.Dims.length≤n+1):rkC x n=0:=by unfold rkC; rw[if_neg (by omega)]
theorem hmx_out{x:qa}{n:Nat}(h:x.Dims.length≤n):hmx x n=0:=by
 unfold hmx;have e1:dc x n=0:=by unfold dc; rw[List.getD_eq_getElem?_getD,List.getElem?_eq_none h]; rfl
 have e2:rkC x n=0:=rkC_out (by omega);have e3:(if n=0 then 0 else rkC x (n - 1))=0:=by
  split
  ·rfl
  ·exact rkC_out (by omega)
 rw[e1,e2,e3]; rfl
def zK(x:qa)(n:Nat):List (List Int):=if n+1 < x.Dims.length then x.Maps.getD n []else []
theorem mapOf_rows{x:qa}(h:zw x)(n:Nat):Rows x.Prime (dc x n) (zK x n):=by
 unfold zK;split
 ·rename_i c; exact(jU h c).2
 ·intro r hr; cases hr
theorem mapOf_rank{x:qa}(h:zw x)(n:Nat){E:List (List Int)}(hE:qV x.Prime (dc x n) (zK x n) E):rkC x n=E.length:=by
 have hp1:1 < x.Prime:=by have:=h.p.range; omega
 unfold zK at hE;by_cases c:n+1 < x.Dims.length
 ·rw[if_pos c]at hE
  unfold rkC; rw[if_pos c,xy hp1 hE]
 ·rw[if_neg c]at hE
  rw[rkC_out (by omega),hE.same hp1 (qV.nil _ _)]; rfl
theorem sum_rank{x y z:qa}(vx:zw x)(vy:zw y)(vz:zw z)(hy:y.Prime=x.Prime)(hz:z.Prime=x.Prime)(hl:z.Dims.length=max x.Dims.length y.Dims.length){n:Nat}(hd:dc z n=dc x n+dc y n)
  (hm:n+1 < z.Dims.length→z.Maps.getD n []=(zK x n).map (fun v=> v++zv (dc y n))++(zK y n).map fun v=> zv (dc x n)++v):rkC z n=rkC x n+rkC y n:=by
 have hp1:1 < x.Prime:=by have:=vx.p.range; omega
 have hp0:0 < x.Prime:=by omega
 by_cases c:n+1 < z.Dims.length
 ·have ry:=mapOf_rows vy n
  rw[hy]at ry;have rx:=mapOf_rows vx n;obtain⟨EA,hA, -⟩:=xe hp1 vx.p.inv rx;obtain⟨EB,hB, -⟩:=xe hp1 vx.p.inv ry;have rz:=(jU vz c).2;rw[hm c,hz,hd]at rz;obtain⟨E,hE, -⟩:=xe hp1 vx.p.inv rz;have e:=rank_sum hp1 vx.p.inv rx ry hA hB hE;rw[mapOf_rank vx n hA,mapOf_rank vy n (by rw[hy]; exact hB),←e];unfold rkC;rw[if_pos c,hm c,hz,hd,xy hp1 hE]
 ·rw[rkC_out (by omega),rkC_out (x:=x) (by omega),rkC_out (x:=y) (by omega)]
theorem sum_hm{x y z:qa}(sz:qw z)(vx:zw x)(vy:zw y)(vz:zw z)(hy:y.Prime=x.Prime)(hz:z.Prime=x.Prime)(hl:z.Dims.length=max x.Dims.length y.Dims.length)(hd:∀n,n < z.Dims.length→dc z n=dc x n+dc y n)
  (hm:∀n,n+1 < z.Dims.length→z.Maps.getD n []=(zK x n).map (fun v=> v++zv (dc y n))++(zK y n).map fun v=> zv (dc x n)++v) {n:Nat} (hn:n < z.Dims.length):Rv.hm z n=hmx x n+hmx y n:=by
 rw[hmx_eq sz vz hn];unfold hmx;have r:∀k,k < z.Dims.length→rkC z k=rkC x k+rkC y k:=fun k hk=> sum_rank vx vy vz hy hz hl (hd k hk) (hm k);rw[hd n hn,r n hn];by_cases c:n=0
 ·rw[if_pos c,if_pos c,if_pos c]; omega
 ·rw[if_neg c,if_neg c,if_neg c,r (n - 1) (by omega)]; omega
structure zY (s:qi):Prop where
 at0:0≤s.at_
 len:s.code.length≤1099511627776
 byte:∀b∈s.code,0≤b.val∧b.val≤255
theorem mask_ok(x:Int):0≤Go.IntKind.wrap .u64 (BitVec.ofInt (Go.IntKind.bits .u64) x &&& BitVec.ofInt (Go.IntKind.bits .u64) 16777215).toNat∧Go.IntKind.wrap .u64 (BitVec.ofInt (Go.IntKind.bits .u64) x &&& BitVec.ofInt (Go.IntKind.bits .u64) 16777215).toNat≤16777215:=by
 have h:(BitVec.ofInt (Go.IntKind.bits .u64) x &&& BitVec.ofInt (Go.IntKind.bits .u64) 16777215).toNat≤16777215:=by
  rw[BitVec.toNat_and];exact vL Nat.and_le_right (by decide)
 have e:∀m:Nat,m≤16777215→Go.IntKind.wrap .u64 (m:Int)=(m:Int):=fun m hm=> by
  unfold Go.IntKind.wrap;simp[Go.IntKind.bits,Go.IntKind.signed];omega
 rw[e _ h];omega
theorem jq{s:qi}(hs:zY s)(n:Int):∃v s',F416 s n=some ⟨v,s'⟩∧zY s'∧0≤v∧(1≤n→v < n)∧(n < 1→v=0):=by
 have h1:=hs.at0;have h2:=hs.len;unfold F416;by_cases c:n < 1
 ·rw[if_pos c]; exact⟨_,_,rfl,hs,by omega,fun q=> by omega,fun _=> rfl⟩
 rw[if_neg c];obtain⟨m1,m2⟩:=mask_ok (Int.fdiv (Go.IntKind.wrap .u64 ((Go.IntKind.wrap .u64 (s.hash*6364136223846793005))+1442695040888963407)) (2^min 33 (Go.IntKind.bits .u64)));generalize Go.IntKind.wrap .u64 (BitVec.ofInt (Go.IntKind.bits .u64) (Int.fdiv (Go.IntKind.wrap .u64 ((Go.IntKind.wrap .u64 (s.hash*6364136223846793005))+1442695040888963407)) (2^min 33 (Go.IntKind.bits .u64)))&&& BitVec.ofInt (Go.IntKind.bits .u64) 16777215).toNat=X at m1 m2 ⊢;rw[qg (by omega) (by omega),ob];have md:∀Y:Int,0≤Y→remI Y n=some (Y.tmod n)∧0≤Y.tmod n∧Y.tmod n < n:=fun Y hY=>⟨jb (by omega),Int.tmod_nonneg _ hY,yW _ (by omega)⟩;by_cases c2:s.at_ < (s.code.length:Int)
 ·obtain⟨i,hi⟩:∃i:Nat,s.at_=(i:Int):=⟨s.at_.toNat,by omega⟩
  have hil:i < s.code.length:=by omega
  obtain⟨b1,b2⟩:=hs.byte _ (wC hil);obtain⟨r1,r2,r3⟩:=md (X+s.code[i].val) (by omega);rw[if_pos c2,hi,qt hil,ob,qg (by omega) (by omega),ob,qg (by omega) (by omega),ob,qg (by omega) (by omega),ob,r1,ob];exact⟨_,_,rfl,⟨by simp only; omega,h2,hs.byte⟩,r2,fun _=> r3,fun q=> absurd q c⟩
 ·obtain⟨r1,r2,r3⟩:=md X m1
  rw[if_neg c2,r1,ob];exact⟨_,_,rfl,⟨h1,h2,hs.byte⟩,r2,fun _=> r3,fun q=> absurd q c⟩
theorem pick_ok{s:qi}(hs:zY s){l:List Int}(hl:l≠ [])(hb:l.length≤1000):∃v s',F412 s l=some ⟨v,s'⟩∧zY s'∧v∈l:=by
 have h0:0 < l.length:=List.length_pos_iff.2 hl;obtain⟨v,s',e,h1,h2,h3, -⟩:=jq hs (l.length:Int);have h4:=h3 (by omega);obtain⟨i,hi⟩:∃i:Nat,v=(i:Int):=⟨v.toNat,by omega⟩;subst hi;have hil:i < l.length:=by omega
 unfold F412;rw[e,ob,qt hil,ob];exact⟨_,_,rfl,h1,wC hil⟩
theorem near_ok{s:qi}(hs:zY s){m:Int}(h0: -1000≤m)(h1:m≤1000000):∃v s',F411 s m=some ⟨v,s'⟩∧zY s'∧ -4611686018427387904≤v∧v≤1099511627776:=by
 obtain⟨v,s',e,k1,k2,k3, -⟩:=jq hs 14;unfold F411;rw[e,ob];simp only;by_cases c:v=0
 ·obtain⟨u,t,e2,k4,k5⟩:=pick_ok k1 (l:=[(-1),m+1,1099511627776,(-4611686018427387904)]) (by simp) (by simp)
  rw[if_pos c,qg (by omega) (by omega),ob,e2,ob];refine⟨u,t,rfl,k4,?_⟩;simp only[wZ,yI,or_false]at k5;rcases k5 with rfl|rfl|rfl|rfl <;> omega
 ·obtain⟨u,t,e2,k4,k5,k6,k7⟩:=jq k1 (m+1)
  rw[if_neg c,qg (by omega) (by omega),ob,e2,ob];refine⟨u,t,rfl,k4,by omega,?_⟩;by_cases q:1≤m+1
  ·have:=k6 q; omega
  ·have:=k7 (by omega); omega
theorem vector_ok{s:qi}(hs:zY s){p:Int}(hp:1≤p){n:Nat}(hn:n≤1000):∃v s',F424 s p (n:Int)=some ⟨v,s'⟩∧zY s'∧v.length=n∧∀y∈v,0≤y∧y < p:=by
 obtain⟨c,s1,e,k1,k2,k3, -⟩:=jq hs 3;unfold F424;rw[e,ob];obtain⟨t,g1,g2⟩:=qU (S:=F424_1_S p ⟨c,s1⟩) (fun s=>(s.2.2.2.2).toNat) (fun s=>∃ (q:qi) (o:List Int) (m:Nat),s=(q.code,q.at_,q.hash,o,(m:Int))∧zY q∧o.length+m=n∧∀y∈o,0≤y∧y < p)
  (fun t=>∃ (q:qi) (o:List Int),t=(q.code,q.at_,q.hash,o)∧zY q∧o.length=n∧∀y∈o,0≤y∧y < p) (s:=(s1.code,s1.at_,s1.hash,[],(n:Int))) ⟨s1,[],n,rfl,k1,by simp,fun y hy=> nomatch hy⟩ (by
  rintro _ ⟨q,o,m,rfl,h1,h2,h3⟩;unfold F424_1_S;simp only;by_cases cm:0 < (m:Int)
  ·left
   rw[if_pos cm];have ext:∀y,0≤y→y < p→∀z∈o++[y],0≤z∧z < p:=fun y y0 y1 z hz=> by
    rcases wW.1 hz with hz|hz
    ·exact h3 z hz
    ·rw[List.mem_singleton.1 hz]; exact⟨y0,y1⟩
   by_cases cc:c=0
   ·obtain⟨x,q2,e2,j1,j2,j3, -⟩:=jq h1 p
    rw[if_pos cc,e2,ob,qM (by simp; omega) (by simp; omega),ob,qg (by omega) (by omega),ob];exact⟨_,rfl,⟨q2,o++[x],m - 1,by simp only[wF,true_and]; omega,j1,by simp; omega,ext x j2 (j3 hp)⟩,by simp only; omega⟩
   ·obtain⟨x0,q1,e1,i1,i2,i3, -⟩:=jq h1 2
    rw[if_neg cc,e1,ob];simp only;by_cases c0:x0=0
    ·obtain⟨x,q2,e2,j1,j2,j3, -⟩:=jq i1 p
     rw[if_pos c0,e2,ob,qM (by simp; omega) (by simp; omega),ob,qg (by omega) (by omega),ob];exact⟨_,rfl,⟨q2,o++[x],m - 1,by simp only[wF,true_and]; omega,j1,by simp; omega,ext x j2 (j3 hp)⟩,by simp only; omega⟩
    ·rw[if_neg c0,qM (by simp; omega) (by simp; omega),ob,qg (by omega) (by omega),ob]
     exact⟨_,rfl,⟨q1,o++[0],m - 1,by simp only[wF,true_and]; omega,i1,by simp; omega,ext 0 (by omega) (by omega)⟩,by simp only; omega⟩
  ·right
   rw[if_neg cm];exact⟨_,rfl,⟨q,o,rfl,h1,by omega,h3⟩⟩)
 obtain⟨q,o,rfl,h1,h2,h3⟩:=g2;rw[g1,ob];exact⟨o,q,rfl,h1,h2,h3⟩
theorem from_ok{code:List U8}(hl:code.length≤1099511627776)(hb:∀b∈code,0≤b.val∧b.val≤255):∃s,F405 code=some s∧zY s:=by
 unfold F405;obtain⟨t,g1, -⟩:=qU (S:=F405_S code) (fun s=>(4096 - s.1).toNat) (fun s=> 0≤s.1) (fun _=> True) (s:=(0,Go.IntKind.wrap .u64 (12731+Go.IntKind.wrap .u64 (code.length:Int)))) (yG 0) (by
  rintro⟨i,h⟩ h0;simp only at h0;unfold F405_S;simp only;by_cases c1:i < (code.length:Int)
  ·rw[if_pos c1]
   by_cases c2:i < 4096
   ·left
    obtain⟨k,rfl⟩:∃k:Nat,i=(k:Int):=⟨i.toNat,by omega⟩;rw[if_pos c2,qt (by omega),ob,qg (by omega) (by omega),ob];exact⟨_,rfl,by simp only; omega,by simp only; omega⟩
   ·right; rw[if_neg c2]; exact⟨_,rfl,trivial⟩
  ·right; rw[if_neg c1]; exact⟨_,rfl,trivial⟩)
 rw[g1,ob];exact⟨_,rfl,⟨by simp only; omega,hl,hb⟩⟩
def gT(D:List Int)(val:Nat→Nat→Nat→Int):T3s:=(List.range (D.length - 1)).map fun k=>(List.range (D.getD (k+1) 0).toNat).map fun i=>(List.range (D.getD k 0).toNat).map fun j=> val k i j
theorem gT_at{D:List Int}{val:Nat→Nat→Nat→Int}{k:Nat}(hk:k+1 < D.length):(gT D val).getD k []=(List.range (D.getD (k+1) 0).toNat).map fun i=>(List.range (D.getD k 0).toNat).map fun j=> val k i j:=by
 unfold gT;rw[List.getD_eq_getElem?_getD,List.getElem?_map,List.getElem?_range (by omega)]; rfl
theorem gT_row{D:List Int}{val:Nat→Nat→Nat→Int}{k i:Nat}(hk:k+1 < D.length)(hi:i < (D.getD (k+1) 0).toNat):((gT D val).getD k []).getD i []=(List.range (D.getD k 0).toNat).map fun j=> val k i j:=by
 rw[gT_at hk,List.getD_eq_getElem?_getD,List.getElem?_map,List.getElem?_range hi]; rfl
theorem gT_len{D:List Int}{val:Nat→Nat→Nat→Int}:(gT D val).length=D.length - 1:=by simp[gT]
theorem gT_shp{D:List Int}{val:Nat→Nat→Nat→Int}:Shp (zM D) (gT D val):=by
 have hz:(zM D).length=D.length - 1:=by simp[zM]
 refine⟨by rw[hz,gT_len],fun k hk=>?_,fun k hk i hi=>?_⟩
 ·rw[gT_len]at hk
  rw[gT_at (by omega),zM_at hk]; simp[zT]
 ·rw[gT_len]at hk
  rw[gT_at (by omega)]at hi;simp only[wQ,List.length_range]at hi;rw[gT_row (by omega) hi,zM_at hk];unfold zT;rw[List.getD_eq_getElem?_getD,List.getElem?_replicate,if_pos hi]; simp
theorem gT_num{D:List Int}{val:Nat→Nat→Nat→Int}{k i j:Nat}(h:InT (zM D) k i j):zg (gT D val) k i j=val k i j:=by
 obtain⟨h1,h2,h3⟩:=inT_zM.1 h;unfold zg;rw[gT_row h1 h2,List.getD_eq_getElem?_getD,List.getElem?_map,List.getElem?_range h3]; rfl
theorem gT_eq{D:List Int}{val:Nat→Nat→Nat→Int}{r:T3s}(hs:Shp r (zM D))(hv:∀k i j,InT (zM D) k i j→zg r k i j=val k i j):r=gT D val:=
 (hs.trans gT_shp).eq fun k i j hin=> by
  have hz:=gT_shp.inT hin;rw[gT_num hz,hv k i j hz]
theorem gT_congr{D:List Int}{val val':Nat→Nat→Nat→Int}(h:∀k i j,InT (zM D) k i j→val k i j=val' k i j):gT D val=gT D val':=
 gT_eq (gT_shp.symm) fun k i j hin=> by rw[gT_num hin,h k i j hin]
theorem gT_small{p:Int}{D:List Int}{val:Nat→Nat→Nat→Int}(h1:D.length≤1000)(hd:∀d∈D,0≤d∧d≤1000):qw (⟨p,D,gT D val⟩:qa):=by
 have hg:∀k,(D.getD k 0).toNat≤1000:=fun k=> by
  by_cases hk:k < D.length
  ·have:=hd _ (qG hk 0); omega
  ·rw[List.getD_eq_getElem?_getD,List.getElem?_eq_none (by omega)]; simp
 refine⟨by simp only; omega,by simp only[gT_len]; omega,fun m hm=>?_⟩;simp only at hm;unfold gT at hm;obtain⟨k,hk,rfl⟩:=wK.1 hm;refine⟨by simp only[wQ,List.length_range]; have:=hg (k+1); omega,fun r hr=>?_⟩;obtain⟨i,hi,rfl⟩:=wK.1 hr;simp only[wQ,List.length_range]; have:=hg k; omega
theorem gT_wide{p:Int}{D:List Int}{val:Nat→Nat→Nat→Int}(hp:IsP p)(h1:1≤D.length∧D.length≤100)(hd:∀d∈D,0≤d∧d≤100)(hv:∀k i j,InT (zM D) k i j→0≤val k i j∧val k i j < p):zw (⟨p,D,gT D val⟩:qa):=by
 refine⟨hp,h1,by simp only[gT_len]; omega,hd,fun k hk=>?_⟩;simp only[gT_len]at hk;have d0:=hd _ (qG (show k < D.length by omega) 0);have d1:=hd _ (qG (show k+1 < D.length by omega) 0);unfold jL;simp only;rw[gT_at (by omega)];refine⟨by simp only[wQ,List.length_range]; omega,fun r hr=>?_⟩;obtain⟨i,hi,rfl⟩:=wK.1 hr;have hi':=wV.1 hi;refine⟨by simp only[wQ,List.length_range]; omega,fun y hy=>?_⟩;obtain⟨j,hj,rfl⟩:=wK.1 hy;have hj':=wV.1 hj;exact hv k i j (inT_zM.2 ⟨by omega,hi',hj'⟩)
theorem jO{l:List Int}{n:Nat}(h:n < l.length):l.reverse.getD n 0=l.getD (l.length - 1 - n) 0:=by
 rw[List.getD_eq_getElem?_getD,List.getElem?_reverse h,List.getD_eq_getElem?_getD]
theorem F407_eq{l:List Int}(h:l.length≤1000):F407 l=some l.reverse:=by
 unfold F407;rw[qg (by omega) (by omega),ob];obtain⟨t,g1,g2⟩:=qU (S:=F407_S) (fun s=>(s.2.2 - s.2.1).toNat) (fun s=>∃i:Nat,s.2.1=i∧s.2.2=(l.length:Int) - 1 - i∧s.1.length=l.length∧2*i≤l.length+1∧∀k,k < l.length→s.1.getD k 0=if k < i∨l.length≤k+i then l.getD (l.length - 1 - k) 0 else l.getD k 0) (fun t=> t=l.reverse) (s:=(l,0,(l.length:Int) - 1)) ⟨0,rfl,by show(l.length:Int) - 1=(l.length:Int) - 1 - ((0:Nat):Int); omega,rfl,by omega,fun k hk=> by rw[if_neg (by omega)]⟩ (by
  rintro⟨s,a,b⟩ ⟨i,p1,p2,p3,p5,p4⟩;simp only at p1 p2 p3 p4;subst p1; subst p2;by_cases hi:(i:Int) < (l.length:Int) - 1 - i
  ·left
   obtain⟨m,hm⟩:∃m:Nat,(l.length:Int) - 1 - i=(m:Int):=⟨l.length - 1 - i,by omega⟩;have h1:i < s.length:=by omega
   have h2:m < s.length:=by omega
   have hmi:m=l.length - 1 - i:=by omega
   refine⟨((s.set i (s.getD m 0)).set m (s.getD i 0),((i+1:Nat):Int),(l.length:Int) - 1 - ((i+1:Nat):Int)),?_,⟨i+1,rfl,rfl,by simp[p3],by omega,fun k hk=>?_⟩,by simp only; omega⟩
   ·unfold F407_S
    simp only;rw[if_pos hi,hm,qj h2 0,ob,qj h1 0,ob,qW h1,ob,qW (by simpa using h2),ob,qg (by omega) (by omega),ob,qg (by omega) (by omega),ob];rw[show(m:Int) - 1=(l.length:Int) - 1 - ((i+1:Nat):Int) by omega]; rfl
   ·rw[jP (by simpa using h2),jP h1]
    by_cases e1:k=m
    ·rw[if_pos e1,if_pos (by omega),p4 i (by omega),if_neg (by omega),e1,hmi,show l.length - 1 - (l.length - 1 - i)=i by omega]
    ·rw[if_neg e1]
     by_cases e2:k=i
     ·rw[if_pos e2,if_pos (by omega),p4 m (by omega),if_neg (by omega),e2,←hmi]
     ·rw[if_neg e2,p4 k hk]
      by_cases e3:k < i∨l.length≤k+i
      ·rw[if_pos e3,if_pos (by omega)]
      ·rw[if_neg e3,if_neg (by omega)]
  ·right
   refine⟨s,by unfold F407_S; simp only; rw[if_neg hi],?_⟩;refine jQ 0 (by simp[p3]) fun k hk=>?_;rw[List.length_reverse]at hk;rw[jO hk,p4 k hk];by_cases e3:k < i∨l.length≤k+i
   ·rw[if_pos e3]
   ·rw[if_neg e3,show l.length - 1 - k=k by omega])
 have g1':ze F407_S (l,0,(l.length:Int) - 1)=some t:=g1;rw[g1',g2]
def dualN(x:qa)(k i j:Nat):Int:=zg x.Maps (x.Dims.length - 2 - k) j i
def xm(x:qa):qa:=⟨x.Prime,x.Dims.reverse,gT x.Dims.reverse (dualN x)⟩
theorem F390_eq{x:qa}(hx:qw x)(h:qp x):F390 x=some ⟨xm x,0⟩:=by
 have hdl:=h.dl;have hml:=h.ml;have hp:=h.p.range;have hxd:=hx.d;have sx:SmallT x.Maps:=⟨hx.m,hx.r⟩;have rx:=(xj.self h).rng;obtain⟨b,e1,e2⟩:=jm hx;have eb:b=true:=e2.2 h;subst eb;have hrl:x.Dims.reverse.length=x.Dims.length:=by simp
 have hrd:∀n,n < x.Dims.length→(x.Dims.reverse.getD n 0).toNat=dc x (x.Dims.length - 1 - n):=fun n hn=> by rw[jO hn]; rfl
 have hmr:∀d∈x.Dims.reverse,0≤d∧d≤1000:=fun d hd=> by have:=h.dims d (List.mem_reverse.1 hd); omega
 have hin':∀k i j,InT x.Maps k i j→InT (zM x.Dims.reverse) (x.Dims.length - 2 - k) j i:=fun k i j hin=> by
  obtain⟨a,b,c⟩:=(qX h).1 hin;refine inT_zM.2 ⟨by omega,?_,?_⟩
  ·rw[hrd _ (by omega),show x.Dims.length - 1 - (x.Dims.length - 2 - k+1)=k by omega]; exact c
  ·rw[hrd _ (by omega),show x.Dims.length - 1 - (x.Dims.length - 2 - k)=k+1 by omega]; exact b
 obtain⟨r,a1,a2⟩:=F85_put (s0:=zM x.Dims.reverse) (ms:=x.Maps) (φ:=fun k i j=>(x.Dims.length - 2 - k,j,i)) (val:=fun k i j=> zg x.Maps k i j% x.Prime) (g:=fun n r pl v s=> F408 x.Prime x n r pl v s) sx hin' (fun k i j k' i' j' q1 q2 e=> by
  obtain⟨a,b,c⟩:=(qX h).1 q1;obtain⟨a',b',c'⟩:=(qX h).1 q2;simp only[wF]at e;exact⟨by omega,e.2.2,e.2.1⟩) (fun k i j s hin hsh hz=> by
  obtain⟨a,b,c⟩:=(qX h).1 hin;have hv:=rx k i j hin;have hc:=hin' k i j hin;simp only at hz ⊢;unfold F408;rw[xk hx.d,ob,qg (by omega) (by omega),ob,qg (by omega) (by omega),ob,show(x.Dims.length:Int) - 1 - ((k:Int)+1)+1=((x.Dims.length - 2 - k:Nat):Int)+1 by omega];exact F75_zero hp (hsh.inT hc) (by omega) (by rw[hz]; exact zM_zero hc) (by omega))
 have hr:r=gT x.Dims.reverse (dualN x):=gT_eq a2.shp fun k i j hin=> by
  obtain⟨b1,b2,b3⟩:=inT_zM.1 hin;rw[hrl]at b1;rw[hrd _ (by omega),show x.Dims.length - 1 - (k+1)=x.Dims.length - 2 - k by omega]at b2;rw[hrd _ (by omega),show x.Dims.length - 1 - k=x.Dims.length - 2 - k+1 by omega]at b3;have hq:InT x.Maps (x.Dims.length - 2 - k) j i:=(qX h).2 ⟨by omega,b3,b2⟩;have:=(a2.at' _ _ _ hq).1 trivial;simp only at this;rw[show x.Dims.length - 2 - (x.Dims.length - 2 - k)=k by omega]at this;rw[this];have hv:=rx _ _ _ hq;unfold dualN;exact vP hv.1 hv.2
 unfold F390;rw[e1,ob,if_pos rfl];unfold F96;rw[qM (by simp; omega) (by simp; omega),ob,yL,F407_eq (by omega),ob,F74_big (by rw[hrl]; omega) (by rw[hrl]; omega) hmr,ob];simp only;rw[a1,ob,hr];rfl
theorem F390_no{x:qa}(hx:qw x)(h:¬qp x):F390 x=some ⟨⟨0,[],[]⟩,1⟩:=by
 obtain⟨b,e1,e2⟩:=jm hx;have eb:b=false:=by cases b with|true=> exact absurd (e2.1 rfl) h|false=> rfl
 unfold F390;rw[e1,ob,if_neg (by rw[eb]; simp)]
theorem xZ{β:Type}(n:Nat)(f:Nat→β):coll n (fun i=>[f i])=(List.range n).map f:=by
 induction n with
 |zero=> rfl
 |succ n ih=> rw[xL,ih,uH,yE]; rfl
theorem zt{β:Type}{n i:Nat}{f:Nat→β}{d:β}(h:i < n):((List.range n).map f).getD i d=f i:=by
 rw[List.getD_eq_getElem?_getD,List.getElem?_map,List.getElem?_range h]; rfl
theorem F409_eq{m:List (List Int)}{w:Nat}(hm:∀i,i < m.length→(qn m i).length=w)(h1:m.length≤1000)(hw:w≤1000):F409 m (w:Int)=some (cols w m):=by
 unfold F409;have e:cols w m=coll w fun j=>[m.map fun r=> nth r j]:=by rw[xZ]; rfl
 rw[e,forR_coll (n:=w) (B:=F409_1_B m w) (D:=F409_1_D m w) (fun j=>[m.map fun r=> nth r j]) (by omega) (fun i=> by simp) (fun j s hj hs=> by
  unfold F409_1_B;have e2:(m.map fun r=> nth r j)=coll m.length fun i=>[nth (qn m i) j]:=by
   rw[xZ];refine xz (by simp) fun i hi=>?_;rw[wQ]at hi;rw[nth_map hi];unfold nth;rw[zt hi]
  rw[e2,forR_coll (n:=m.length) (B:=F409_2_B m w s j) (D:=F409_2_D m w s j) (fun i=>[nth (qn m i) j]) (by omega) (fun i=> by simp) (fun i t hi ht=> by
   unfold F409_2_B;rw[qj hi [],ob,qj (show j < (m.getD i []).length by have:=hm i hi; unfold qn at this; omega) 0,ob,qM (by simp; omega) (by simp; omega),ob];rfl) fun i t=> rfl,ob,qM (by simp; omega) (by simp; omega),ob]) fun i s=> rfl,ob]
theorem dual_tab{x:qa}(hx:qw x)(h:qp x){k:Nat}(hk:k+1 < x.Dims.length):(gT x.Dims.reverse (dualN x)).getD k []=cols (dc x (x.Dims.length - 2 - k)) (x.Maps.getD (x.Dims.length - 2 - k) []):=by
 have hrl:x.Dims.reverse.length=x.Dims.length:=by simp
 have T:=ji h (k:=x.Dims.length - 2 - k) (by omega);rw[gT_at (by omega),jO (show k+1 < x.Dims.length by omega),jO (show k < x.Dims.length by omega)];rw[show x.Dims.length - 1 - (k+1)=x.Dims.length - 2 - k by omega];have e1:(x.Dims.getD (x.Dims.length - 1 - k) 0).toNat=(x.Maps.getD (x.Dims.length - 2 - k) []).length:=by
  rw[T.len,show x.Dims.length - 2 - k+1=x.Dims.length - 1 - k by omega]; rfl
 rw[e1];unfold cols;refine yF fun i hi=>?_;refine xz (by simp) fun j hj=>?_;simp only[wQ,List.length_range]at hj;rw[nth_map hj];unfold nth;rw[zt hj];rfl
theorem dual_maps{x:qa}(hx:qw x)(h:qp x):gT x.Dims.reverse (dualN x)=(List.range (x.Dims.length - 1)).map fun k=> cols (dc x (x.Dims.length - 2 - k)) (x.Maps.getD (x.Dims.length - 2 - k) []):=by
 have hrl:x.Dims.reverse.length=x.Dims.length:=by simp
 refine jQ [] (by rw[gT_len,hrl]; simp) fun k hk=>?_;simp only[wQ,List.length_range]at hk;rw[dual_tab hx h (by omega),zt hk]
theorem F391_eq{x:qa}(hx:qw x)(h:qp x):F391 x=some ⟨xm x,0⟩:=by
 have hdl:=h.dl;have hml:=h.ml;have hp:=h.p.range;have hxd:=hx.d;obtain⟨b,e1,e2⟩:=jH hx;have eb:b=true:=e2.2 h;subst eb;have hrl:x.Dims.reverse.length=x.Dims.length:=by simp
 unfold F391;rw[e1,ob,if_pos rfl,qg (by omega) (by omega),ob];have hL1:∃t,ze (F391_1_S x ((x.Dims.length:Int) - 1)) ([],x.Prime,0)=some t∧t=(x.Dims.reverse,x.Prime):=by
  refine qU (fun s=>((x.Dims.length:Int) - s.2.2).toNat) (fun s=>∃n:Nat,n≤x.Dims.length∧s=(coll n fun i=>[x.Dims.getD (x.Dims.length - 1 - i) 0],x.Prime,(n:Int))) _ ⟨0,by omega,rfl⟩ ?_;rintro _ ⟨n,hn,rfl⟩;by_cases c:n < x.Dims.length
  ·left
   have hl:(coll n fun i=>[x.Dims.getD (x.Dims.length - 1 - i) 0]).length≤n:=coll_len (fun i=> by simp) n;refine⟨_,?_,⟨n+1,by omega,rfl⟩,by simp only; omega⟩;unfold F391_1_S;simp only;rw[if_pos (by omega),qg (by omega) (by omega),ob,show(x.Dims.length:Int) - 1 - (n:Int)=((x.Dims.length - 1 - n:Nat):Int) by omega,qj (by omega) 0,ob,qM (by simp only[List.length_singleton]; omega) (by simp only[List.length_singleton]; omega),ob,qg (by omega) (by omega),ob,xL];rfl
  ·right
   have:n=x.Dims.length:=by omega
   subst this;refine⟨_,by unfold F391_1_S; simp only; rw[if_neg (by omega)],?_⟩;rw[xZ];refine Prod.ext (jQ 0 (by simp) fun k hk=>?_) rfl;rw[List.length_reverse]at hk;simp only;rw[zt hk,jO hk]
 obtain⟨t,g1,rfl⟩:=hL1;rw[g1,ob];simp only;have hL2:∃t,forR 0 ((x.Dims.length:Int) - 1) (F391_2_B x ((x.Dims.length:Int) - 1) x.Dims.reverse) (F391_2_D x ((x.Dims.length:Int) - 1) x.Dims.reverse) ([],x.Prime)=some t∧t=(coll (x.Dims.length - 1) fun k=>[cols (dc x (x.Dims.length - 2 - k)) (x.Maps.getD (x.Dims.length - 2 - k) [])],x.Prime):=by
  refine qC (x.Dims.length - 1) (by omega) (by omega) (fun n s=> s=(coll n fun k=>[cols (dc x (x.Dims.length - 2 - k)) (x.Maps.getD (x.Dims.length - 2 - k) [])],x.Prime)) _ rfl ?_ fun s hs=>⟨s,by rw[hs]; rfl,hs⟩;rintro n _ hn rfl;left;have T:=ji h (k:=x.Dims.length - 2 - n) (by omega);have hl:(coll n fun k=>[cols (dc x (x.Dims.length - 2 - k)) (x.Maps.getD (x.Dims.length - 2 - k) [])]).length≤n:=coll_len (fun i=> by simp) n;refine⟨_,?_,rfl⟩;have hb:=jK h (x.Dims.length - 2 - n);have hb1:=jK h (x.Dims.length - 2 - n+1);have htl:=T.len;unfold F391_2_B;simp only;rw[qg (by omega) (by omega),ob,qg (by omega) (by omega),ob,show(x.Dims.length:Int) - 1 - 1 - (n:Int)=((x.Dims.length - 2 - n:Nat):Int) by omega,qj (by omega) [],ob,qj (by omega) 0,ob,dc_at h (by omega),F409_eq (fun i hi=>(T.rows _ (zB hi)).len) (by omega) (by omega),ob,qM (by simp only[List.length_singleton]; omega) (by simp only[List.length_singleton]; omega),ob,xL]
 obtain⟨t,g2,rfl⟩:=hL2;rw[g2,ob];simp only;unfold xm;rw[dual_maps hx h,xZ]
theorem F391_no{x:qa}(hx:qw x)(h:¬qp x):F391 x=some ⟨⟨0,[],[]⟩,1⟩:=by
 obtain⟨b,e1,e2⟩:=jH hx;have eb:b=false:=by cases b with|true=> exact absurd (e2.1 rfl) h|false=> rfl
 unfold F391;rw[e1,ob,if_neg (by rw[eb]; simp)]
theorem dual_wide{x:qa}(hx:qw x)(h:qp x):zw (xm x):=by
 have hdl:=h.dl;have rx:=(xj.self h).rng;have hrl:x.Dims.reverse.length=x.Dims.length:=by simp
 have hrd:∀n,n < x.Dims.length→(x.Dims.reverse.getD n 0).toNat=dc x (x.Dims.length - 1 - n):=fun n hn=> by rw[jO hn]; rfl
 refine gT_wide h.p (by rw[hrl]; omega) (fun d hd=> by have:=h.dims d (List.mem_reverse.1 hd); omega) fun k i j hin=>?_;obtain⟨b1,b2,b3⟩:=inT_zM.1 hin;rw[hrl]at b1;rw[hrd _ (by omega),show x.Dims.length - 1 - (k+1)=x.Dims.length - 2 - k by omega]at b2;rw[hrd _ (by omega),show x.Dims.length - 1 - k=x.Dims.length - 2 - k+1 by omega]at b3;exact rx _ _ _ ((qX h).2 ⟨by omega,b3,b2⟩)
theorem dual_small{x:qa}(hx:qw x)(h:qp x):qw (xm x):=by
 have hdl:=h.dl;exact gT_small (by simp; omega) fun d hd=> by have:=h.dims d (List.mem_reverse.1 hd); omega
theorem gT_valid{p:Int}{D:List Int}{val:Nat→Nat→Nat→Int}(hp:IsP p)(h1:1≤D.length∧D.length≤6)(hd:∀d∈D,0≤d∧d≤8)(hv:∀k i j,InT (zM D) k i j→0≤val k i j∧val k i j < p)
  (hs:∀k i l,k+2 < D.length→i < (D.getD (k+2) 0).toNat→l < (D.getD k 0).toNat→Cg p (sumI (fun j=> val (k+1) i j*val k j l) (D.getD (k+1) 0).toNat) 0):qp (⟨p,D,gT D val⟩:qa):=by
 have W:=gT_wide hp (D:=D) ⟨h1.1,by omega⟩ (fun d h=> by have:=hd d h; omega) hv;have hp0:0 < p:=by have:=hp.range; omega
 have hg:∀k,(D.getD k 0).toNat≤8:=fun k=> by
  by_cases hk:k < D.length
  ·have:=hd _ (qG hk 0); omega
  ·rw[List.getD_eq_getElem?_getD,List.getElem?_eq_none (by omega)]; simp
 have hrows:∀k,k+1 < D.length→((gT D val).getD k []).length=(D.getD (k+1) 0).toNat∧Rows p (D.getD k 0).toNat ((gT D val).getD k []):=fun k hk=> jU W hk;refine⟨⟨hp,h1,by simp only[gT_len]; omega,hd⟩,W.tab,fun k0 h0 hk0=>?_⟩;obtain⟨k,rfl⟩:∃k,k0=k+1:=⟨k0 - 1,by omega⟩;simp only[gT_len]at hk0;have hk2:k+2 < D.length:=by omega
 have a1:=hrows (k+1) hk2;have a0:=hrows k (by omega);unfold SqAt;simp only[yJ];intro row hrow z hz;obtain⟨i,hi,rfl⟩:=mem_row.1 hrow;have hrv:=a1.2 _ hrow;have H:LinOK p (D.getD k 0).toNat (qn ((gT D val).getD (k+1) []) i) ((gT D val).getD k []):=xU hp a0.1 a0.2 (by have:=hg (k+1); omega) (by have:=hg k; omega) hrv;have hll:=lin_len H;have V:=xT H;obtain⟨l,hl,rfl⟩:=wT hz;have hl':l < (D.getD k 0).toNat:=by omega
 have h2:=lin_at H hl';rw[hrv.len]at h2;rw[a1.1]at hi;have e:dot (nth (qn ((gT D val).getD (k+1) []) i)) ((gT D val).getD k []) (D.getD (k+1) 0).toNat l=sumI (fun j=> val (k+1) i j*val k j l) (D.getD (k+1) 0).toNat:=zL fun j hj=> by
  have e1:nth (qn ((gT D val).getD (k+1) []) i) j=val (k+1) i j:=gT_num (inT_zM.2 ⟨hk2,hi,hj⟩);have e2:nth (qn ((gT D val).getD k []) j) l=val k j l:=gT_num (inT_zM.2 ⟨by omega,hj,hl'⟩);rw[e1,e2]
 rw[e]at h2;have:=(h2.trans (hs k i l hk2 hi hl')).eq (V.rng l hl').1 (V.rng l hl').2 (yG _) hp0
 rwa[qO hl]at this
theorem sq_sum{x:qa}(h:qp x){k i l:Nat}(hk:k+2 < x.Dims.length)(hi:i < dc x (k+2))(hl:l < dc x k):Cg x.Prime (sumI (fun j=> zg x.Maps (k+1) i j*zg x.Maps k j l) (dc x (k+1))) 0:=sq_dot h hk hi hl
theorem dual_valid{x:qa}(hx:qw x)(h:qp x):qp (xm x):=by
 have hdl:=h.dl;have W:=dual_wide hx h;have rx:=(xj.self h).rng;have hrl:x.Dims.reverse.length=x.Dims.length:=by simp
 have hrd:∀n,n < x.Dims.length→(x.Dims.reverse.getD n 0).toNat=dc x (x.Dims.length - 1 - n):=fun n hn=> by rw[jO hn]; rfl
 refine gT_valid h.p (by omega) (fun d hd=> h.dims d (List.mem_reverse.1 hd)) (fun k i j hin=>?_) fun k i l hk hi hl=>?_
 ·obtain⟨b1,b2,b3⟩:=inT_zM.1 hin
  rw[hrl]at b1;rw[hrd _ (by omega),show x.Dims.length - 1 - (k+1)=x.Dims.length - 2 - k by omega]at b2;rw[hrd _ (by omega),show x.Dims.length - 1 - k=x.Dims.length - 2 - k+1 by omega]at b3;exact rx _ _ _ ((qX h).2 ⟨by omega,b3,b2⟩)
 ·rw[hrl]at hk
  rw[hrd _ (by omega)]at hi hl ⊢;obtain⟨m,hm⟩:∃m,x.Dims.length=m+k+3:=⟨x.Dims.length - k - 3,by omega⟩;rw[show x.Dims.length - 1 - (k+2)=m by omega]at hi;rw[show x.Dims.length - 1 - k=m+2 by omega]at hl;rw[show x.Dims.length - 1 - (k+1)=m+1 by omega];have:=sq_sum h (k:=m) (i:=l) (l:=i) (by omega) hl hi;have e:sumI (fun j=> dualN x (k+1) i j*dualN x k j l) (dc x (m+1))=sumI (fun j=> zg x.Maps (m+1) l j*zg x.Maps m j i) (dc x (m+1)):=zL fun j hj=> by
   unfold dualN;rw[show x.Dims.length - 2 - (k+1)=m by omega,show x.Dims.length - 2 - k=m+1 by omega,Int.mul_comm]
  rw[e]; exact this
theorem maps_gT{x:qa}(h:qp x):x.Maps=gT x.Dims (zg x.Maps):=by
 have hml:=h.ml;have hz:(zM x.Dims).length=x.Dims.length - 1:=by simp[zM]
 refine gT_eq ⟨by rw[hz]; omega,fun k hk=>?_,fun k hk i hi=>?_⟩ fun k i j hin=> rfl
 ·rw[hz]at hk
  rw[(ji h (k:=k) (by omega)).len,zM_at hk]; simp[zT,dc]
 ·rw[hz]at hk
  have T:=ji h (k:=k) (by omega);rw[zM_at hk]at hi ⊢;have hi':i < dc x (k+1):=by simpa[zT,dc]using hi
  have e:((x.Maps.getD k []).getD i []).length=dc x k:=(row_ok T hi').len;rw[e];unfold zT at hi ⊢;simp only[uB]at hi;rw[List.getD_eq_getElem?_getD,List.getElem?_replicate,if_pos hi]; simp[dc]
theorem dual_dual{x:qa}(hx:qw x)(h:qp x):xm (xm x)=x:=by
 have hdl:=h.dl;have hrl:x.Dims.reverse.length=x.Dims.length:=by simp
 have hrd:∀n,n < x.Dims.length→(x.Dims.reverse.getD n 0).toNat=dc x (x.Dims.length - 1 - n):=fun n hn=> by rw[jO hn]; rfl
 have e:gT x.Dims (dualN (xm x))=x.Maps:=by
  refine Eq.trans (gT_congr fun k i j hin=>?_) (maps_gT h).symm;obtain⟨b1,b2,b3⟩:=inT_zM.1 hin;unfold dualN xm;simp only[hrl];rw[gT_num (inT_zM.2 ⟨by omega,by rw[hrd _ (by omega),show x.Dims.length - 1 - (x.Dims.length - 2 - k+1)=k by omega]; exact b3,by rw[hrd _ (by omega),show x.Dims.length - 1 - (x.Dims.length - 2 - k)=k+1 by omega]; exact b2⟩)];unfold dualN;rw[show x.Dims.length - 2 - (x.Dims.length - 2 - k)=k by omega]
 have hd:xm (xm x)=⟨x.Prime,x.Dims.reverse.reverse,gT x.Dims.reverse.reverse (dualN (xm x))⟩:=rfl;rw[hd,List.reverse_reverse,e]
theorem dual_hm'{x:qa}(hx:qw x)(h:qp x){n:Nat}(hn:n < x.Dims.length):hm (xm x) n=hm x (x.Dims.length - 1 - n):=by
 have hrl:(xm x).Dims.length=x.Dims.length:=by simp[xm]
 exact dual_hm hx (dual_small hx h) h.wide (dual_wide hx h) rfl hrl (fun m hm=> by unfold dc xm; simp only; rw[jO hm]) (fun k hk=> dual_tab hx h hk) hn
def sgk(k:Nat):Int:=if k% 2=0 then 1 else -1
theorem sgk_rem(k:Nat):(k:Int).tmod 2=if k% 2=0 then 0 else 1:=by
 rw[vU (by omega)];split <;> omega
theorem sgk_rng(k:Nat):sgk k=1∨sgk k= -1:=by unfold sgk; split <;> simp
theorem sgk_sq(k:Nat):sgk k*sgk k=1:=by rcases sgk_rng k with h|h <;> rw[h] <;> rfl
theorem F179_eq(k:Nat):F179 (k:Int)=some (sgk k):=by
 unfold F179 sgk;rw[jb (by omega),ob,sgk_rem];split <;> rfl
theorem F136_s{p k:Int}{w:Nat}(hp:2≤p∧p≤7)(hk: -1≤k∧k≤1){v u:List Int}(hv:qH p w v)(hu:qH p w u)(hw:w≤1048576):F136 p v u k=some (subv p v u k):=by
 have hl:=hv.len;have hul:=hu.len;have hsl:(subv p v u k).length=w:=by simp[subv,hl,hul]
 unfold F136;obtain⟨t,g1,g2⟩:=qC (B:=xw p v u k) (D:=F136_1_D p v u k) v.length rfl (by omega) (fun i s=> s=(subv p v u k).take i) (fun t=> t=subv p v u k) (s:=[]) (by simp) (by
  rintro i s hi rfl;left;have hiw:i < w:=by omega
  have h1:=hv.rng i hiw;have h2:=hu.rng i hiw;have hm: -7≤k*nth u i∧k*nth u i≤7:=by
   have:k= -1∨k=0∨k=1:=by omega
   rcases this with rfl|rfl|rfl <;> omega
  refine⟨(subv p v u k).take (i+1),?_,rfl⟩;unfold xw;rw[jh hi,ob,jh (by omega),ob,qg (by omega) (by omega),ob,qg (by omega) (by omega),ob,F127_eq hp,ob,qM (by simp; omega) (by simp; omega),ob]
  congr 2
  rw[←wY (show i < (subv p v u k).length by omega)]
  congr 2
  rw[qO hi,qO (show i < u.length by omega)];simp[subv]) (by
  rintro s rfl;exact⟨_,rfl,by rw[wM (by omega)]⟩)
 have g1':forR 0 (v.length:Int) (xw p v u k) (F136_1_D p v u k) []=some t:=g1;rw[g1',g2,ob]
def scv(p:Int)(c:Int)(r:List Int):List Int:=r.map fun y=>(c*y)% p
theorem scv_len{p c:Int}{r:List Int}:(scv p c r).length=r.length:=by simp[scv]
theorem nth_scv{p c:Int}{r:List Int}{j:Nat}(h:j < r.length):nth (scv p c r) j=(c*nth r j)% p:=by
 rw[qO (by rw[scv_len]; exact h),qO h]; simp[scv]
theorem scv_ok{p c:Int}{w:Nat}(hp:0 < p){r:List Int}(h:r.length=w):qH p w (scv p c r):=⟨by rw[scv_len,h],fun j hj=> by
 rw[nth_scv (by omega)];exact⟨Int.emod_nonneg _ (by omega),Int.emod_lt_of_pos _ hp⟩⟩
theorem nth_subv'{p k:Int}{v u:List Int}{j:Nat}(h1:j < v.length)(h2:j < u.length):nth (subv p v u k) j=(nth v j - k*nth u j)% p:=by
 rw[qO (by simp[subv]; omega),qO h1,qO h2]; simp[subv]
theorem scv_subv{p c:Int}{w:Nat}{r:List Int}(h:r.length=w):scv p c r=subv p (zv w) r (-c):=by
 have hz:(zv w).length=w:=by simp[zv]
 refine xz (by rw[scv_len]; simp[subv,hz,h]) fun j hj=>?_;rw[scv_len]at hj;rw[nth_scv hj,nth_subv' (by omega) hj,zh]
 congr 1
 rw[Int.zero_sub,Int.neg_mul,Int.neg_neg]
def jn(x:qa)(k n i j:Nat):Int:=if n < k then 0 else(sgk k*zg x.Maps (n - k) i j)% x.Prime
def qP(x:qa)(k:Nat):List Int:=List.replicate k 0++x.Dims
def jo(x:qa)(k:Nat):qa:=⟨x.Prime,qP x k,gT (qP x k) (jn x k)⟩
theorem zj{x:qa}{k:Nat}:(qP x k).length=k+x.Dims.length:=by simp[qP]
theorem xD{x:qa}{k n:Nat}(h:n < k):(qP x k).getD n 0=0:=by
 unfold qP;rw[List.getD_eq_getElem?_getD,List.getElem?_append_left (by simpa using h),List.getElem?_replicate,if_pos h]; rfl
theorem zJ{x:qa}{k n:Nat}:(qP x k).getD (k+n) 0=x.Dims.getD n 0:=by
 unfold qP;rw[List.getD_eq_getElem?_getD,List.getElem?_append_right (by simp),List.getD_eq_getElem?_getD]; simp
theorem shift_inT{x:qa}(h:qp x){k n i j:Nat}:InT (zM (qP x k)) n i j↔∃m,n=k+m∧InT x.Maps m i j:=by
 rw[inT_zM,zj];constructor
 ·rintro⟨a,b,c⟩
  have hn:k≤n:=Nat.le_of_not_lt fun q=> by rw[xD q]at c; simp at c
  obtain⟨m,rfl⟩:∃m,n=k+m:=⟨n - k,by omega⟩;rw[zJ]at c;rw[wX,zJ]at b;exact⟨m,rfl,(qX h).2 ⟨by omega,b,c⟩⟩
 ·rintro⟨m,rfl,hm⟩
  obtain⟨a,b,c⟩:=(qX h).1 hm;refine⟨by omega,?_,?_⟩
  ·rw[wX,zJ]; exact b
  ·rw[zJ]; exact c
theorem shift_dims{x:qa}(h:qp x){k:Nat}:∀d∈qP x k,0≤d∧d≤8:=fun d hd=> by
 rcases wW.1 hd with q|q
 ·have:=(List.mem_replicate.1 q).2; omega
 ·exact h.dims d q
theorem F394_eq{x:qa}(hx:qw x)(h:qp x){k:Nat}(hk:k+x.Dims.length≤6):F394 x (k:Int)=some ⟨jo x k,0⟩:=by
 have hdl:=h.dl;have hml:=h.ml;have hp:=h.p.range;have hxd:=hx.d;have sx:SmallT x.Maps:=⟨hx.m,hx.r⟩;have rx:=(xj.self h).rng;obtain⟨b,e1,e2⟩:=jm hx;have eb:b=true:=e2.2 h;subst eb;obtain⟨r,a1,a2⟩:=F85_put (s0:=zM (qP x k)) (ms:=x.Maps) (φ:=fun n i j=>(k+n,i,j)) (val:=fun n i j=>(sgk k*zg x.Maps n i j)% x.Prime) (g:=fun n r pl v s=> F413 x.Prime k n r pl v s) sx (fun n i j hin=>(shift_inT h).2 ⟨n,rfl,hin⟩) (fun n i j n' i' j' q1 q2 e=> by
  simp only[wF]at e;exact⟨by omega,e.2.1,e.2.2⟩) (fun n i j s hin hsh hz=> by
  obtain⟨a,b,c⟩:=(qX h).1 hin;have hv:=rx n i j hin;have hc:=(shift_inT h (k:=k)).2 ⟨n,rfl,hin⟩;simp only at hz ⊢;have hs: -x.Prime < sgk k*zg x.Maps n i j∧sgk k*zg x.Maps n i j < x.Prime:=by rcases sgk_rng k with q|q <;> rw[q] <;> omega
  unfold F413;rw[qg (by omega) (by omega),ob,F179_eq,ob,qg (by omega) (by omega),ob,show(n:Int)+1+(k:Int)=((k+n:Nat):Int)+1 by omega];exact F75_zero hp (hsh.inT hc) (by omega) (by rw[hz]; exact zM_zero hc) hs)
 have hr:r=gT (qP x k) (jn x k):=gT_eq a2.shp fun n i j hin=> by
  obtain⟨m,rfl,hm⟩:=(shift_inT h).1 hin;have:=(a2.at' m i j hm).1 trivial;simp only at this;rw[this];unfold jn;rw[if_neg (by omega),Nat.add_sub_cancel_left]
 unfold F394;rw[e1,ob,if_pos rfl,F56_eq,ob,if_pos (by simp; omega),xk hx.d,ob,qg (by omega) (by omega),ob,if_neg (by omega),mkL_ok k rfl (by omega) (by omega),ob,qM (by simp; omega) (by simp; omega),ob];have hD:List.replicate k (0:Int)++x.Dims=qP x k:=rfl;rw[hD,F74_big (by rw[zj]; omega) (by rw[zj]; omega) fun d hd=> by have:=shift_dims h (k:=k) d hd; omega,ob];simp only;rw[a1,ob,hr];rfl
theorem F394_no{x:qa}(hx:qw x){k:Int}(hk: -4611686018427387904≤k∧k≤4611686018427387904)(hn:¬(qp x∧0≤k∧k+x.Dims.length≤6)):∃c,F394 x k=some ⟨⟨0,[],[]⟩,c⟩∧F395 x k=some ⟨⟨0,[],[]⟩,c⟩∧c≠0:=by
 have hxd:=hx.d;obtain⟨b,e1,e2,e3⟩:=(jm hx).same (jH hx);unfold F394 F395;rw[e1,e2,ob,ob];by_cases hv:b=true
 ·have V:=e3.1 hv
  have hdl:=V.dl;rw[if_pos hv,if_pos hv,F56_eq,jM,ob,ob];by_cases c1:0≤k∧k≤5
  ·rw[if_pos (by simpa using c1),if_pos (by simpa using c1),xk hx.d,ob,qg (by omega) (by omega),ob,qg (by omega) (by omega),ob]
   have:6 < (x.Dims.length:Int)+k:=by
    refine Int.lt_of_not_ge fun q=> hn ⟨V,c1.1,by omega⟩
   rw[if_pos (by omega),if_pos this];exact⟨3,rfl,rfl,by decide⟩
  ·rw[if_neg (by simpa using c1),if_neg (by simpa using c1)]
   exact⟨2,rfl,rfl,by decide⟩
 ·rw[if_neg hv,if_neg hv]
  exact⟨1,rfl,rfl,by decide⟩
def tabF(x:qa)(n:Nat):List (List Int):=if n=0 then List.replicate (dc x 0) []else x.Maps.getD (n - 1) []
theorem tabF_ok{x:qa}(h:qp x){n:Nat}(hn:n < x.Dims.length):(tabF x n).length=dc x n∧∃w,w≤8∧Rows x.Prime w (tabF x n):=by
 unfold tabF;by_cases c:n=0
 ·subst c
  rw[if_pos rfl];exact⟨by simp,0,by omega,fun r hr=> by rw[(List.mem_replicate.1 hr).2]; exact⟨rfl,fun j hj=> absurd hj (by omega)⟩⟩
 ·rw[if_neg c]
  obtain⟨m,rfl⟩:∃m,n=m+1:=⟨n - 1,by omega⟩;have T:=ji h hn;rw[yJ];exact⟨T.len,_,jK h m,T.rows⟩
theorem tabF_F76{x:qa}(hx:qw x)(h:qp x){n:Nat}(hn:n < x.Dims.length):F76 x (n:Int)=some (tabF x n):=by
 have hml:=h.ml;unfold tabF;by_cases c:n=0
 ·subst c
  rw[if_pos rfl];exact F76_0 hx.d hn (dc_at h hn) (by have:=jK h 0; omega)
 ·rw[if_neg c]
  obtain⟨m,rfl⟩:∃m,n=m+1:=⟨n - 1,by omega⟩;rw[yJ];exact F76_eq hx.d hn (by omega)
theorem shift_tab{x:qa}(h:qp x){k n:Nat}(hn:n < x.Dims.length)(hkn:0 < k+n):(gT (qP x k) (jn x k)).getD (k+n - 1) []=(tabF x n).map (scv x.Prime (sgk k)):=by
 obtain⟨t1, -⟩:=tabF_ok h hn;rw[gT_at (by rw[zj]; omega),show k+n - 1+1=k+n by omega,zJ];have e1:(x.Dims.getD n 0).toNat=dc x n:=rfl;rw[e1];refine jQ [] (by simp[t1]) fun i hi=>?_;rw[wQ,t1]at hi;rw[zt hi];have e2:((tabF x n).map (scv x.Prime (sgk k))).getD i []=scv x.Prime (sgk k) (qn (tabF x n) i):=by
  unfold qn;rw[List.getD_eq_getElem?_getD,List.getElem?_map,List.getElem?_eq_getElem (by omega),List.getD_eq_getElem?_getD,List.getElem?_eq_getElem (by omega)]; rfl
 rw[e2];by_cases c:n=0
 ·subst c
  rw[xD (by omega)];unfold tabF qn;rw[if_pos rfl,List.getD_eq_getElem?_getD,List.getElem?_replicate,if_pos hi]; rfl
 ·obtain⟨m,rfl⟩:∃m,n=m+1:=⟨n - 1,by omega⟩
  have T:=ji h hn;have e3:tabF x (m+1)=x.Maps.getD m []:=by unfold tabF; rw[if_neg (by omega),yJ]
  rw[show k+(m+1) - 1=k+m by omega,zJ,e3];have hr:=(row_ok T hi).len;refine xz (by rw[scv_len,hr]; simp[dc]) fun j hj=>?_;simp only[wQ,List.length_range]at hj;rw[nth_scv (by rw[hr]; exact hj)];unfold nth;rw[zt hj];unfold jn;rw[if_neg (by omega),Nat.add_sub_cancel_left];rfl
theorem shift_empty{x:qa}(h:qp x){k n:Nat}(hn:n+1 < k):(gT (qP x k) (jn x k)).getD n []=[]:=by
 have:=h.dl;rw[gT_at (by rw[zj]; omega),xD hn]; rfl
theorem F414_3_eq{x:qa}{k:Nat}{t:List (List Int)}{w:Nat}(hp:2≤x.Prime∧x.Prime≤7)(ht:Rows x.Prime w t)(hw:w≤8)(hl:t.length≤1000)(o3:T3s)(q4 v7 x17:Int)(l20:List Int):
  ze (kk x (k:Int) o3 q4 v7 x17 l20) (t,0)=some (t.map (scv x.Prime (sgk k))):=by
 obtain⟨r,g1,g2⟩:=qU (S:=kk x (k:Int) o3 q4 v7 x17 l20) (fun s=>((t.length:Int) - s.2).toNat) (fun s=>∃n:Nat,n≤t.length∧s.2=n∧s.1.length=t.length∧∀i,s.1.getD i []=if i < n then scv x.Prime (sgk k) (t.getD i [])else t.getD i []) (fun r=> r=t.map (scv x.Prime (sgk k))) (s:=(t,0)) ⟨0,by omega,rfl,rfl,fun i=> by rw[if_neg (by omega)]⟩ (by
  rintro⟨s,a⟩ ⟨n,p1,p2,p3,p4⟩;simp only at p2 p3 p4;subst p2;by_cases c:n < t.length
  ·left
   have hrow:=ht _ (qG c []);have hrl:=hrow.len;have hg:s.getD n []=t.getD n []:=by rw[p4 n,if_neg (by omega)]
   have hsg:2*((k:Int).tmod 2) - 1= -(sgk k):=by rw[sgk_rem]; unfold sgk; split <;> rfl
   refine⟨(s.set n (scv x.Prime (sgk k) (t.getD n [])),((n+1:Nat):Int)),?_,⟨n+1,by omega,rfl,by simp[p3],fun i=>?_⟩,by simp only; omega⟩
   ·unfold kk
    simp only;have hc0:(k:Int).tmod 2=0∨(k:Int).tmod 2=1:=by rw[sgk_rem]; split <;> simp
    rw[if_pos (by omega),qj (show n < s.length by omega) [],ob,hg,mkL_ok w (by omega) (by omega) (by omega),ob,jb (by omega),ob,qg (by omega) (by omega),ob,qg (by omega) (by omega),ob,hsg];have e:=F136_s hp (k:= -(sgk k)) (by rcases sgk_rng k with q|q <;> rw[q] <;> decide) (ja (show 0 < x.Prime by omega) w) hrow (by omega);have e':F136 x.Prime (List.replicate w 0) (t.getD n []) (-(sgk k))=_:=e;rw[e',ob,←scv_subv hrl,qW (by omega),ob,qg (by omega) (by omega),ob];rfl
   ·simp only
    rw[jP (by omega)];by_cases e:i=n
    ·rw[if_pos e,if_pos (by omega),e]
    ·rw[if_neg e,p4 i]
     by_cases e3:i < n
     ·rw[if_pos e3,if_pos (by omega)]
     ·rw[if_neg e3,if_neg (by omega)]
  ·right
   have hn:n=t.length:=by omega
   refine⟨s,by unfold kk; simp only; rw[if_neg (by omega)],?_⟩;refine jQ [] (by simp[p3]) fun i hi=>?_;rw[wQ]at hi;rw[p4 i,if_pos (by omega),List.getD_eq_getElem?_getD,List.getElem?_eq_getElem hi,List.getD_eq_getElem?_getD,List.getElem?_map,List.getElem?_eq_getElem hi]; rfl)
 rw[g1,g2]
theorem xO{α:Type}{l:List α}{n:Nat}(d:α)(h:n < l.length):l.take n++[l.getD n d]=l.take (n+1):=by
 rw[List.getD_eq_getElem?_getD,List.getElem?_eq_getElem h];exact wY h
theorem F414_eq{x:qa}(hx:qw x)(h:qp x){k:Nat}(hk:k+x.Dims.length≤6):F414 x (k:Int)=some (jo x k):=by
 have hdl:=h.dl;have hml:=h.ml;have hp:=h.p.range;have hxd:=hx.d;have hTl:(gT (qP x k) (jn x k)).length=k+x.Dims.length - 1:=by rw[gT_len,zj]
 have hDl:(qP x k).length=k+x.Dims.length:=zj;unfold F414;have hL1:∃t,forR 0 (k:Int) (F414_1_B x k) (F414_1_D x k) ([],[],x.Prime)=some t∧t=((qP x k).take k,(gT (qP x k) (jn x k)).take (k - 1),x.Prime):=by
  refine qC k rfl (by omega) (fun n s=> s=((qP x k).take n,(gT (qP x k) (jn x k)).take (n - 1),x.Prime)) _ rfl ?_ fun s hs=>⟨s,by rw[hs]; rfl,hs⟩;rintro n _ hn rfl;left;have hd:(qP x k).take n++[0]=(qP x k).take (n+1):=by rw[←xO 0 (show n < (qP x k).length by omega),xD hn]
  have hb:((qP x k).take n).length≤6:=by rw[vG]; omega
  have hb2:((gT (qP x k) (jn x k)).take (n - 1)).length≤6:=by rw[vG]; omega
  unfold F414_1_B;simp only;rw[qM (by simp only[List.length_singleton]; omega) (by simp only[List.length_singleton]; omega),ob,hd];by_cases c:n=0
  ·subst c
   rw[if_neg (by omega)];exact⟨_,rfl,rfl⟩
  ·rw[if_pos (by omega),qM (by simp only[List.length_singleton]; omega) (by simp only[List.length_singleton]; omega),ob]
   refine⟨_,rfl,?_⟩;have e:=xO (l:=gT (qP x k) (jn x k)) (n:=n - 1) [] (by omega);rw[shift_empty h (by omega),show n - 1+1=n+1 - 1 by omega]at e;rw[e]
 obtain⟨t,g1,rfl⟩:=hL1;rw[g1,ob];simp only;have hL2:∃t,forR 0 (x.Dims.length:Int) (F414_2_B x k) (F414_2_D x k) ((qP x k).take k,(gT (qP x k) (jn x k)).take (k - 1),x.Prime)=some t∧t=(qP x k,gT (qP x k) (jn x k),x.Prime):=by
  refine qC x.Dims.length rfl (by omega) (fun n s=> s=((qP x k).take (k+n),(gT (qP x k) (jn x k)).take (k+n - 1),x.Prime)) _ rfl ?_ fun s hs=>⟨s,by rw[hs]; rfl,by rw[hs,wM (by omega),wM (by omega)]⟩;rintro n _ hn rfl;left;obtain⟨t1,w,t2,t3⟩:=tabF_ok h hn;have d8:=jK h n;have hd:(qP x k).take (k+n)++[x.Dims.getD n 0]=(qP x k).take (k+(n+1)):=by rw[show k+(n+1)=k+n+1 by omega,←xO 0 (show k+n < (qP x k).length by omega),zJ]
  have hb:((qP x k).take (k+n)).length≤6:=by rw[vG]; omega
  have hb2:((gT (qP x k) (jn x k)).take (k+n - 1)).length≤6:=by rw[vG]; omega
  unfold F414_2_B;simp only;rw[qj hn 0,ob,qM (by simp only[List.length_singleton]; omega) (by simp only[List.length_singleton]; omega),ob,hd,tabF_F76 hx h hn,ob,F95_eq (by omega) (fun r hr=> by have:=(t3 r hr).len; omega),ob,F414_3_eq hp t3 t2 (by omega),ob,qg (by omega) (by omega),ob];by_cases c:k+n=0
  ·rw[if_neg (by omega)]
   refine⟨_,rfl,?_⟩;rw[show k+n - 1=k+(n+1) - 1 by omega]
  ·rw[if_pos (by omega),qM (by simp only[List.length_singleton]; omega) (by simp only[List.length_singleton]; omega),ob]
   refine⟨_,rfl,?_⟩;have e:=xO (l:=gT (qP x k) (jn x k)) (n:=k+n - 1) [] (by omega);rw[shift_tab h hn (by omega),show k+n - 1+1=k+(n+1) - 1 by omega]at e;rw[e]
 obtain⟨t,g2,rfl⟩:=hL2;rw[g2,ob];rfl
theorem F395_eq{x:qa}(hx:qw x)(h:qp x){k:Nat}(hk:k+x.Dims.length≤6):F395 x (k:Int)=some ⟨jo x k,0⟩:=by
 have hdl:=h.dl;obtain⟨b,e1,e2⟩:=jH hx;have eb:b=true:=e2.2 h;subst eb;unfold F395;rw[e1,ob,if_pos rfl,jM,ob,if_pos (by simp; omega),qg (by omega) (by omega),ob,if_neg (by omega),F414_eq hx h hk,ob]
theorem shift_valid{x:qa}(hx:qw x)(h:qp x){k:Nat}(hk:k+x.Dims.length≤6):qp (jo x k):=by
 have hdl:=h.dl;have hp:=h.p.range;refine gT_valid h.p (by rw[zj]; omega) (shift_dims h) (fun n i j hin=>?_) fun n i l hn hi hl=>?_
 ·unfold jn
  split
  ·omega
  ·exact⟨Int.emod_nonneg _ (by omega),Int.emod_lt_of_pos _ (by omega)⟩
 ·rw[zj]at hn
  have hkn:k≤n:=Nat.le_of_not_lt fun q=> by rw[xD q]at hl; simp at hl
  obtain⟨m,rfl⟩:∃m,n=k+m:=⟨n - k,by omega⟩;rw[zJ]at hl;rw[wX,zJ]at hi;rw[wX,zJ];have:=sq_sum h (k:=m) (i:=i) (l:=l) (by omega) hi hl;refine Cg.trans (sumI_cg fun j hj=>?_) this;unfold jn;rw[if_neg (by omega),if_neg (by omega),Nat.add_sub_cancel_left,Nat.add_sub_cancel_left];refine Cg.trans (Cg.mul (.mod _ _) (.mod _ _)) ?_;have e:sgk k*zg x.Maps (m+1) i j*(sgk k*zg x.Maps m j l)=(sgk k*sgk k)*(zg x.Maps (m+1) i j*zg x.Maps m j l):=by
   rw[Int.mul_assoc,Int.mul_assoc,←Int.mul_assoc (zg x.Maps (m+1) i j),Int.mul_comm (zg x.Maps (m+1) i j),Int.mul_assoc]
  rw[e,sgk_sq,Int.one_mul];exact .refl _ _
theorem shift_small{x:qa}(h:qp x){k:Nat}(hk:k+x.Dims.length≤6):qw (jo x k):=
 gT_small (by rw[zj]; omega) fun d hd=> by have:=shift_dims h d hd; omega
theorem rk_scv{p:Int}(hp:IsP p){w:Nat}{m:List (List Int)}{c:Int}(hc:c*c=1)(hm:Rows p w m):rkOf p w (m.map (scv p c))=rkOf p w m:=by
 have hp1:1 < p:=by have:=hp.range; omega
 have hp0:0 < p:=by omega
 have hm':Rows p w (m.map (scv p c)):=fun r hr=> by
  obtain⟨u,hu,rfl⟩:=wK.1 hr;exact scv_ok hp0 (hm u hu).len
 obtain⟨E,hE, -⟩:=xe hp1 hp.inv hm;have hE':qV p w (m.map (scv p c)) E:=⟨hE.red,fun v=>(hE.sp v).trans ⟨fun hv=> hv.into hp0 hm' fun r hr=>?_,fun hv=> hv.into hp0 hm fun r hr=>?_⟩⟩
 ·rw[xy hp1 hE,xy hp1 hE']
 ·have hr':scv p c r∈m.map (scv p c):=wK.2 ⟨r,hr,rfl⟩
  have hs:=Sp.scale hp0 hm' (Sp.mem hp0 hm' hr') (-c);have hrv:=hm r hr;have e:subv p (zv w) (scv p c r) (-c)=r:=by
   rw[←scv_subv (by rw[scv_len,hrv.len])];refine qH.ext (p:=p) (w:=w) (scv_ok hp0 (by rw[scv_len,hrv.len])) hrv fun j hj=>?_;rw[nth_scv (by rw[scv_len,hrv.len]; exact hj),nth_scv (by rw[hrv.len]; exact hj)];refine Cg.trans (.mod _ _) (Cg.trans (Cg.mul (.refl _ _) (.mod _ _)) ?_);rw[←Int.mul_assoc,hc,Int.one_mul];exact .refl _ _
  rwa[e]at hs
 ·obtain⟨u,hu,rfl⟩:=wK.1 hr
  rw[scv_subv (hm u hu).len];exact Sp.scale hp0 hm (Sp.mem hp0 hm hu) _
theorem shift_hm'{x:qa}(hx:qw x)(h:qp x){k:Nat}(hk:k+x.Dims.length≤6):(∀n,n < k→hm (jo x k) n=0)∧∀n,n < x.Dims.length→hm (jo x k) (n+k)=hm x n:=by
 have hp:=h.p.range;have hd:∀n,dc (jo x k) (n+k)=dc x n:=fun n=> by
  unfold dc jo; simp only; rw[Nat.add_comm n k,zJ]
 refine shift_hm hx (shift_small h hk) h.wide (shift_valid hx h hk).wide (by unfold jo; simp only; rw[zj]; omega) (fun n hn=> by unfold dc jo; simp only; rw[xD hn]; rfl) (fun n hn=> hd n) fun n hn=>?_;unfold rkC;have hl:(jo x k).Dims.length=k+x.Dims.length:=zj;rw[if_pos (by rw[hl]; omega),if_pos hn,hd n];have e:(jo x k).Maps.getD (n+k) []=(x.Maps.getD n []).map (scv x.Prime (sgk k)):=by
  have:=shift_tab h (k:=k) (n:=n+1) hn (by omega);rw[show k+(n+1) - 1=n+k by omega]at this;unfold tabF at this;rw[if_neg (by omega),yJ]at this;exact this
 rw[e];exact rk_scv h.p (sgk_sq k) (ji h hn).rows
noncomputable def hmL(x:qa):List Int:=(List.range x.Dims.length).map fun n=>(hm x n:Int)
theorem F149_eq{x:qa}(hx:qw x)(h:qp x):F149 x=some ⟨hmL x,0⟩:=by
 have hdl:=h.dl;obtain⟨b,e1,e2⟩:=jm hx;have eb:b=true:=e2.2 h;subst eb;unfold F149;rw[e1,ob,if_pos rfl];have e:hmL x=coll x.Dims.length fun n=>[(hm x n:Int)]:=by rw[xZ]; rfl
 rw[forR_coll (n:=x.Dims.length) (B:=F149_1_B x) (D:=F149_1_D x) (fun n=>[(hm x n:Int)]) (by omega) (fun i=> by simp) (fun n s hn hs=> by
  unfold F149_1_B;rw[(hm_eqw hx h.wide hn).2.1,ob,qM (by simp; omega) (by simp; omega),ob]) fun i s=> rfl,ob,←e]
theorem eq_loop'{n:Nat}{B:Int→Unit→Option (Unit⊕(Unit⊕Bool))}{D:Int→Unit→Option (Unit⊕Bool)}(hn:n≤1048576)(hB:∀ (i:Nat),i < n→B i ()=some (.inl ()))(hD:∀i,D i ()=some (.inl ())):forR 0 (n:Int) B D ()=some (.inl ()):=by
 obtain⟨t,g1,g2⟩:=qC (B:=B) (D:=D) n rfl (by omega) (fun _ _=> True) (fun t=> t= .inl ()) (s:=()) trivial (fun i s hi _=> .inl ⟨(),hB i hi,trivial⟩) (fun s _=>⟨_,hD _,rfl⟩);rw[g1,g2]
theorem F156_same{l:List Int}(h:l.length≤1000):F156 l l=some true:=by
 unfold F156;rw[if_pos rfl,eq_loop' (by omega) (fun i hi=> by
  unfold F156_1_B;rw[qj hi 0,ob,ob,if_pos rfl]) fun i=> rfl,ob]
theorem F422_same{l:List (List Int)}(h:l.length≤1000)(h2:∀r∈l,r.length≤1000):F422 l l=some true:=by
 unfold F422;rw[if_pos rfl,eq_loop' (by omega) (fun i hi=> by
  unfold F422_1_B;rw[qj hi [],ob,ob,F156_same (h2 _ (qG hi [])),ob,if_pos rfl]) fun i=> rfl,ob]
theorem F410_same{l:T3s}(h:l.length≤1000)(h2:∀m∈l,m.length≤1000∧∀r∈m,r.length≤1000):F410 l l=some true:=by
 unfold F410;rw[if_pos rfl,eq_loop' (by omega) (fun i hi=> by
  have:=h2 _ (qG hi []);unfold F410_1_B;rw[qj hi [],ob,ob,F422_same this.1 this.2,ob,if_pos rfl]) fun i=> rfl,ob]
theorem F392_same{x:qa}(h1:x.Dims.length≤1000)(h2:x.Maps.length≤1000)(h3:∀m∈x.Maps,m.length≤1000∧∀r∈m,r.length≤1000):F392 x x=some true:=by
 unfold F392;rw[if_pos rfl,F156_same h1,ob,if_pos rfl,F410_same h2 h3,ob]
theorem F392_wide{x:qa}(h:qp x):F392 x x=some true:=by
 have hdl:=h.dl;have hml:=h.ml;refine F392_same (by omega) (by omega) fun m hm=>?_;obtain⟨k,hk,rfl⟩:=wT hm;have T:=ji h (k:=k) (by omega);rw[mapsD hk]at T;have a:=jK h (k+1);have b:=jK h k;have tl:=T.len;exact⟨by omega,fun r hr=> by have:=(T.rows r hr).len; omega⟩
theorem F392_none:F392 ⟨0,[],[]⟩ ⟨0,[],[]⟩=some true:=F392_same (by simp) (by simp) (by simp)
theorem F150_eq{l:List Int}(h:l.length≤1000)(hb:∀y∈l, -1000≤y∧y≤1000):F150 l=some (sumI (nth l) l.length):=by
 unfold F150;have key:∀n,n≤l.length→ -1000*(n:Int)≤sumI (nth l) n∧sumI (nth l) n≤1000*n:=fun n=> by
  induction n with
  |zero=> intro _; simp[sumI]
  |succ n ih=>
   intro hn;have:=ih (by omega);have hy:=hb _ (qG (show n < l.length by omega) 0);simp only[sumI];unfold nth at this ⊢;omega
 obtain⟨t,g1,g2⟩:=qC (B:=F150_1_B l) (D:=F150_1_D l) l.length rfl (by omega) (fun n s=> s=sumI (nth l) n) (fun t=> t=sumI (nth l) l.length) (s:=0) rfl (by
  rintro n s hn rfl;left;have a:=key n (by omega);have hy:=hb _ (qG hn 0);refine⟨sumI (nth l) (n+1),?_,rfl⟩;unfold F150_1_B;rw[qj hn 0,ob,qg (by omega) (by omega),ob];rfl) fun s hs=>⟨s,rfl,hs⟩
 have g1':forR 0 (l.length:Int) (F150_1_B l) (F150_1_D l) 0=some t:=g1;rw[g1',g2,ob]
theorem F102_all{x:qa}(hx:qw x)(h:qp x)(n:Nat):F102 x (n:Int)=some (dc x n:Int):=by
 by_cases c:n≤x.Dims.length
 ·exact F102_dc hx h c
 ·have hd:=hx.d
  have hdl:=h.dl;unfold F102;rw[xk hx.d,ob,F56_eq,ob,if_neg (by simp; omega),xJ (by omega)]; rfl
theorem kh{x:qa}(hx:qw x)(h:qp x)(n:Nat):F99 x (n:Int)=some (dc x n:Int):=by
 by_cases c:n≤x.Dims.length
 ·exact F99_dc hx h c
 ·have hd:=hx.d
  have hdl:=h.dl;unfold F99;rw[qg (by omega) (by omega),ob,jM,ob,if_neg (by simp; omega),xJ (by omega)]; rfl
theorem F76_all{x:qa}(hx:qw x)(h:qp x)(n:Nat):F76 x ((n+1:Nat):Int)=some (zK x n):=by
 have hml:=h.ml;have hdl:=h.dl;unfold zK;by_cases c:n+1 < x.Dims.length
 ·rw[if_pos c]; exact F76_eq hx.d c (by omega)
 ·rw[if_neg c]
  unfold F76;rw[qg (by omega) (by omega),ob,jM,ob,if_neg (by simp; omega)];have e:=loopW_coll (n:=0) (fun _=>([]:List (List Int))) (S:=kj x ((n+1:Nat):Int)) (fun _=> by simp) (fun i s hi=> absurd hi (by omega)) (fun s=> by
   unfold kj;simp only;rw[kh hx h,ob,xJ (by omega),if_neg (by omega)])
  rw[e,ob]; rfl
theorem jj{x:qa}(h:qp x)(n:Nat):(zK x n).length=dc x (n+1):=by
 unfold zK;by_cases c:n+1 < x.Dims.length
 ·rw[if_pos c]; exact(ji h c).len
 ·rw[if_neg c,xJ (by omega)]; rfl
theorem mapOf_row{x:qa}(h:qp x){n i:Nat}(hi:i < dc x (n+1)):qH x.Prime (dc x n) (qn (zK x n) i):=mapOf_rows h.wide n _ (zB (by rw[jj h]; exact hi))
theorem mapOf_num{x:qa}(h:qp x){n i j:Nat}(hi:i < dc x (n+1)):nth (qn (zK x n) i) j=zg x.Maps n i j:=by
 have c:n+1 < x.Dims.length:=Nat.lt_of_not_le fun q=> by rw[xJ q]at hi; omega
 unfold zK;rw[if_pos c]; rfl
def sumD(x y:qa):List Int:=(List.range (max x.Dims.length y.Dims.length)).map fun n=>((dc x n+dc y n:Nat):Int)
def sumT(x y:qa)(n:Nat):List (List Int):=(zK x n).map (fun v=> v++zv (dc y n))++(zK y n).map fun v=> zv (dc x n)++v
def sumN(x y:qa)(k i j:Nat):Int:=nth (qn (sumT x y k) i) j
def sumC(x y:qa):qa:=⟨x.Prime,sumD x y,gT (sumD x y) (sumN x y)⟩
theorem zy{x y:qa}:(sumD x y).length=max x.Dims.length y.Dims.length:=by simp[sumD]
theorem sumD_at{x y:qa}(n:Nat):((sumD x y).getD n 0).toNat=dc x n+dc y n:=by
 by_cases c:n < max x.Dims.length y.Dims.length
 ·unfold sumD; rw[zt c]; omega
 ·rw[List.getD_eq_getElem?_getD,List.getElem?_eq_none (by rw[zy]; omega),xJ (by omega),xJ (by omega)]; rfl
theorem sumT_len{x y:qa}(hx:qp x)(hy:qp y)(k:Nat):(sumT x y k).length=dc x (k+1)+dc y (k+1):=by
 simp[sumT,jj hx,jj hy]
theorem sumT_lo{x y:qa}(hx:qp x){k i:Nat}(hi:i < dc x (k+1)):qn (sumT x y k) i=qn (zK x k) i++zv (dc y k):=by
 have hl:=jj hx k;unfold qn sumT;rw[List.getD_eq_getElem?_getD,List.getElem?_append_left (by simp; omega),List.getElem?_map,List.getElem?_eq_getElem (by omega),List.getD_eq_getElem?_getD,List.getElem?_eq_getElem (by omega)]; rfl
theorem sumT_hi{x y:qa}(hx:qp x)(hy:qp y){k i:Nat}(hi:i < dc y (k+1)):qn (sumT x y k) (dc x (k+1)+i)=zv (dc x k)++qn (zK y k) i:=by
 have hl:=jj hx k;have hl2:=jj hy k;unfold qn sumT;rw[List.getD_eq_getElem?_getD,List.getElem?_append_right (by simp; omega),wQ,hl,Nat.add_sub_cancel_left,List.getElem?_map,List.getElem?_eq_getElem (by omega),List.getD_eq_getElem?_getD,List.getElem?_eq_getElem (by omega)]; rfl
theorem sumN_lo{x y:qa}(hx:qp x){k i j:Nat}(hi:i < dc x (k+1)):sumN x y k i j=if j < dc x k then zg x.Maps k i j else 0:=by
 unfold sumN;rw[sumT_lo hx hi,xA,(mapOf_row hx hi).len,mapOf_num hx hi];split
 ·rfl
 ·exact zh _ _
theorem sumN_hi{x y:qa}(hx:qp x)(hy:qp y){k i j:Nat}(hi:i < dc y (k+1)):sumN x y k (dc x (k+1)+i) j=if j < dc x k then 0 else zg y.Maps k i (j - dc x k):=by
 unfold sumN;rw[sumT_hi hx hy hi,xA,show(zv (dc x k)).length=dc x k by simp[zv],mapOf_num hy hi];split
 ·exact zh _ _
 ·rfl
theorem sum_inT{x y:qa}{k i j:Nat}:InT (zM (sumD x y)) k i j↔k+1 < max x.Dims.length y.Dims.length∧i < dc x (k+1)+dc y (k+1)∧j < dc x k+dc y k:=by
 rw[inT_zM,zy,sumD_at,sumD_at]
theorem sumM_eq{x y:qa}(hx:qp x)(hy:qp y)(hp:y.Prime=x.Prime){k:Nat}(hk:k+1 < max x.Dims.length y.Dims.length):(gT (sumD x y) (sumN x y)).getD k []=sumT x y k:=by
 rw[gT_at (by rw[zy]; omega),sumD_at,sumD_at];refine jQ [] (by rw[sumT_len hx hy]; simp) fun i hi=>?_;rw[sumT_len hx hy]at hi;rw[zt hi];have hl:(qn (sumT x y k) i).length=dc x k+dc y k:=by
  by_cases c:i < dc x (k+1)
  ·rw[sumT_lo hx c,wL,(mapOf_row hx c).len]; simp[zv]
  ·obtain⟨i',rfl⟩:∃i',i=dc x (k+1)+i':=⟨i - dc x (k+1),by omega⟩
   rw[sumT_hi hx hy (by omega),wL,(mapOf_row hy (by omega)).len]; simp[zv]
 refine xz (by rw[show(sumT x y k).getD i []=qn (sumT x y k) i from rfl,hl]; simp) fun j hj=>?_;simp only[wQ,List.length_range]at hj;unfold nth;rw[zt hj];rfl
theorem sum_dims{x y:qa}:∀d∈sumD x y,∃n,n < max x.Dims.length y.Dims.length∧d=((dc x n+dc y n:Nat):Int):=fun d hd=> by
 obtain⟨n,hn,rfl⟩:=wK.1 hd;exact⟨n,wV.1 hn,rfl⟩
theorem F397_maps{x y:qa}(sx':qw x)(sy':qw y)(hx:qp x)(hy:qp y)(hp':y.Prime=x.Prime):
  ∃r1,F85 x.Maps (fun n r pl v s=> F75 x.Prime n r pl v s) (zM (sumD x y))=some r1∧F85 y.Maps (fun n r pl v s=> F418 x.Prime x n r pl v s) r1=some (gT (sumD x y) (sumN x y)):=by
 have hp:=hx.p.range;have hdx:=hx.dl;have hdy:=hy.dl;have sx:SmallT x.Maps:=⟨sx'.m,sx'.r⟩;have sy:SmallT y.Maps:=⟨sy'.m,sy'.r⟩;have rx:=(xj.self hx).rng;have ry:=(xj.self hy).rng;have cx:∀ {k i j},InT x.Maps k i j→InT (zM (sumD x y)) k i j:=fun {k i j} hin=> by
  obtain⟨a,b,c⟩:=(qX hx).1 hin;exact sum_inT.2 ⟨by omega,by omega,by omega⟩
 have cy:∀ {k i j},InT y.Maps k i j→InT (zM (sumD x y)) k (dc x (k+1)+i) (dc x k+j):=fun {k i j} hin=> by
  obtain⟨a,b,c⟩:=(qX hy).1 hin;exact sum_inT.2 ⟨by omega,by omega,by omega⟩
 obtain⟨r1,a1,a2⟩:=F85_put (s0:=zM (sumD x y)) (ms:=x.Maps) (φ:=fun k i j=>(k,i,j)) (val:=fun k i j=> zg x.Maps k i j% x.Prime) (g:=fun n r pl v s=> F75 x.Prime n r pl v s) sx (fun k i j hin=> cx hin) (fun k i j k' i' j' _ _ e=> by simpa using e) (fun k i j s hin hsh hz=> by
  obtain⟨a,b,c⟩:=(qX hx).1 hin;have hr:=rx k i j hin;exact F75_zero hp (hsh.inT (cx hin)) (by omega) (by simp only at hz; rw[hz]; exact zM_zero (cx hin)) (by omega))
 obtain⟨r2,b1,b2⟩:=F85_put (s0:=r1) (ms:=y.Maps) (φ:=fun k i j=>(k,dc x (k+1)+i,dc x k+j)) (val:=fun k i j=> zg y.Maps k i j% x.Prime) (g:=fun n r pl v s=> F418 x.Prime x n r pl v s) sy (fun k i j hin=> a2.shp.inT (cy hin)) (fun k i j k' i' j' _ _ e=> by
  simp only[wF]at e;obtain⟨f1,f2,f3⟩:=e;subst f1;exact⟨rfl,by omega,by omega⟩) (fun k i j s hin hsh hz=> by
  obtain⟨a,b,c⟩:=(qX hy).1 hin;have hr:=ry k i j hin;rw[hp']at hr;have d0:=jK hx k;have d1:=jK hx (k+1);have e0:=jK hy k;have e1:=jK hy (k+1);simp only at hz ⊢;unfold F418;rw[show(k:Int)+1=((k+1:Nat):Int) by omega,F102_all sx' hx,ob,qg (by omega) (by omega),ob,qg (by omega) (by omega),ob,show((k+1:Nat):Int) - 1=(k:Int) by omega,F102_all sx' hx,ob,qg (by omega) (by omega),ob];rw[show(i:Int)+(dc x (k+1):Int)=((dc x (k+1)+i:Nat):Int) by omega,show(j:Int)+(dc x k:Int)=((dc x k+j:Nat):Int) by omega,show((k+1:Nat):Int)=(k:Int)+1 by omega];refine F75_zero hp (hsh.inT (a2.shp.inT (cy hin))) (by omega) ?_ (by omega);rw[hz,a2.out _ _ _ (cy hin) fun k' i' j' hin' e=>?_]
  ·exact zM_zero (cy hin)
  ·simp only[wF]at e
   obtain⟨f1,f2,f3⟩:=e;obtain⟨a',b',c'⟩:=(qX hx).1 hin';subst f1;omega)
 refine⟨r1,a1,?_⟩;rw[b1];refine congrArg some ?_;refine gT_eq (b2.shp.trans a2.shp) fun k i j hin=>?_;obtain⟨q1,q2,q3⟩:=sum_inT.1 hin;by_cases hi:i < dc x (k+1)
 ·rw[sumN_lo hx hi,b2.out _ _ _ (a2.shp.inT hin) fun k' i' j' hin' e=>?_]
  ·by_cases hj:j < dc x k
   ·have c:k+1 < x.Dims.length:=Nat.lt_of_not_le fun q=> by rw[xJ q]at hi; omega
    have hq:InT x.Maps k i j:=(qX hx).2 ⟨c,hi,hj⟩;have:=(a2.at' k i j hq).1 trivial;simp only at this;have hr:=rx k i j hq;rw[if_pos hj,this,vP hr.1 hr.2]
   ·rw[if_neg hj,a2.out _ _ _ hin fun k' i' j' hin' e=>?_]
    ·exact zM_zero hin
    ·simp only[wF]at e
     obtain⟨f1,f2,f3⟩:=e;obtain⟨a',b',c'⟩:=(qX hx).1 hin';subst f1;omega
  ·simp only[wF]at e
   obtain⟨f1,f2,f3⟩:=e;subst f1;omega
 ·obtain⟨i',rfl⟩:∃i',i=dc x (k+1)+i':=⟨i - dc x (k+1),by omega⟩
  have hi':i' < dc y (k+1):=by omega
  rw[sumN_hi hx hy hi'];by_cases hj:j < dc x k
  ·rw[if_pos hj,b2.out _ _ _ (a2.shp.inT hin) fun k' i' j' hin' e=>?_,a2.out _ _ _ hin fun k' i' j' hin' e=>?_]
   ·exact zM_zero hin
   ·simp only[wF]at e
    obtain⟨f1,f2,f3⟩:=e;obtain⟨a',b',c'⟩:=(qX hx).1 hin';subst f1;omega
   ·simp only[wF]at e
    obtain⟨f1,f2,f3⟩:=e;subst f1;omega
  ·obtain⟨j',rfl⟩:∃j',j=dc x k+j':=⟨j - dc x k,by omega⟩
   have c:k+1 < y.Dims.length:=Nat.lt_of_not_le fun q=> by rw[xJ q]at hi'; omega
   have hq:InT y.Maps k i' j':=(qX hy).2 ⟨c,hi',by omega⟩;have:=(b2.at' k i' j' hq).1 trivial;simp only at this;have hr:=ry k i' j' hq;rw[hp']at hr;rw[if_neg hj,this,Nat.add_sub_cancel_left,vP hr.1 hr.2]
theorem map_rowAt{β:Type}{m:List (List Int)}{n:Nat}(hn:m.length=n)(f:List Int→β):(List.range n).map (fun i=> f (qn m i))=m.map f:=by
 subst hn;refine yO (by simp) fun i h1 h2=>?_;simp only[wQ,List.length_range]at h1;simp only[List.getElem_map,List.getElem_range];rw[qE h1]
theorem F398_2_eq{x y:qa}(sx:qw x)(sy:qw y)(hx:qp x)(hy:qp y){k:Nat}(hk:k≤1000)(q2:Int)(o6:T3s)(q7 x15:Int)(l18:List Int):
  ze (F398_2_S x y q2 o6 q7 ((k+1:Nat):Int) x15 l18 (zK x k) (zK y k)) ([],0)=some ((zK x k).map fun v=> v++zv (dc y k)):=by
 have hl:=jj hx k;have d1:=jK hx (k+1);have d0:=jK hx k;have e0:=jK hy k;rw[loopW_coll (n:=dc x (k+1)) (fun i=>[qn (zK x k) i++zv (dc y k)]) (fun i=> by simp) (fun i s hi hs=> by
  have hr:=(mapOf_row hx hi).len;unfold F398_2_S;simp only;rw[kh sx hx,ob,if_pos (by omega),qj (show i < (zK x k).length by omega) [],ob,F94_eq (by show(qn (zK x k) i).length≤_; omega),ob,qg (by omega) (by omega),ob,show((k+1:Nat):Int) - 1=(k:Int) by omega,kh sy hy,ob,appZ_ok (by show(qn (zK x k) i).length≤_; omega) (by omega),ob,qM (by simp only[List.length_singleton]; omega) (by simp only[List.length_singleton]; omega),ob,qg (by omega) (by omega),ob];rfl) fun s=> by
  unfold F398_2_S;simp only;rw[kh sx hx,ob,if_neg (by omega)]]
 rw[xZ,map_rowAt hl (fun v=> v++zv (dc y k))]
theorem F398_3_eq{x y:qa}(sx:qw x)(sy:qw y)(hx:qp x)(hy:qp y){k:Nat}(hk:k≤1000)(q2:Int)(o6:T3s)(q7 x15:Int)(l18:List Int){L:List (List Int)}(hL:L.length≤8):
  ze (kl x y q2 o6 q7 ((k+1:Nat):Int) x15 l18 (zK y k)) (L,0)=some (L++(zK y k).map fun v=> zv (dc x k)++v):=by
 have hl:=jj hy k;have d1:=jK hy (k+1);have d0:=jK hx k;have e0:=jK hy k;obtain⟨t,g1,g2⟩:=qU (S:=kl x y q2 o6 q7 ((k+1:Nat):Int) x15 l18 (zK y k)) (fun s=>((dc y (k+1):Int) - s.2).toNat) (fun s=>∃i:Nat,i≤dc y (k+1)∧s=(L++(List.range i).map (fun i=> zv (dc x k)++qn (zK y k) i),(i:Int))) (fun t=> t=L++(zK y k).map fun v=> zv (dc x k)++v) (s:=(L,0)) ⟨0,by omega,by simp⟩ (by
  rintro _ ⟨i,hi,rfl⟩;by_cases c:i < dc y (k+1)
  ·left
   have hr:=(mapOf_row hy c).len;refine⟨_,?_,⟨i+1,by omega,rfl⟩,by simp only; omega⟩;have hb:(L++(List.range i).map (fun i=> zv (dc x k)++qn (zK y k) i)).length≤16:=by simp; omega
   have hg:(zK y k).getD i []=qn (zK y k) i:=rfl;have hz:List.replicate (dc x k) (0:Int)=zv (dc x k):=rfl;have hzl:(zv (dc x k)).length=dc x k:=by simp[zv]
   unfold kl;simp only;rw[kh sy hy,ob,if_pos (by omega),qg (by omega) (by omega),ob,show((k+1:Nat):Int) - 1=(k:Int) by omega,kh sx hx,ob,mkL_ok (dc x k) rfl (by omega) (by omega),ob,hz,qj (show i < (zK y k).length by omega) [],ob,hg,qM (by rw[hzl]; omega) (by rw[hzl]; omega),ob,qM (by simp only[List.length_singleton]; omega) (by simp only[List.length_singleton]; omega),ob,qg (by omega) (by omega),ob];rw[uH,yE,wP]; rfl
  ·right
   have hi2:i=dc y (k+1):=by omega
   refine⟨_,by unfold kl; simp only; rw[kh sy hy,ob,if_neg (by omega)],?_⟩;rw[hi2,map_rowAt hl (fun v=> zv (dc x k)++v)])
 rw[g1,g2]
theorem max_int{a b:Nat}:(if(b:Int) > (a:Int)then(b:Int)else(a:Int))=((max a b:Nat):Int):=by
 split <;> omega
def FitS(x y:qa):Prop:=∀n,n < max x.Dims.length y.Dims.length→dc x n+dc y n≤8
theorem F398_1_eq{x y:qa}(sx:qw x)(sy:qw y)(hx:qp x)(hy:qp y)(hp:y.Prime=x.Prime):
  ∃t,forR 0 ((max x.Dims.length y.Dims.length:Nat):Int) (F398_1_B x y) (F398_1_D x y) (0,[],[],x.Prime)=some t∧((FitS x y∧t= .inl (0,sumD x y,gT (sumD x y) (sumN x y),x.Prime))∨(¬FitS x y∧t= .inr ⟨⟨0,[],[]⟩,3⟩)):=by
 have hdx:=hx.dl;have hdy:=hy.dl;have hTl:(gT (sumD x y) (sumN x y)).length=max x.Dims.length y.Dims.length - 1:=by rw[gT_len,zy]
 have hDl:(sumD x y).length=max x.Dims.length y.Dims.length:=zy;refine qC (max x.Dims.length y.Dims.length) rfl (by omega) (fun n s=>(∀m,m < n→dc x m+dc y m≤8)∧s=(0,(sumD x y).take n,(gT (sumD x y) (sumN x y)).take (n - 1),x.Prime)) _ ⟨fun m hm=> absurd hm (by omega),rfl⟩ ?_ ?_
 ·rintro n _ hn ⟨hI,rfl⟩
  have dx:=jK hx n;have dy:=jK hy n;have hb:((sumD x y).take n).length≤6:=by rw[vG]; omega
  have hb2:((gT (sumD x y) (sumN x y)).take (n - 1)).length≤6:=by rw[vG]; omega
  unfold F398_1_B;simp only;rw[kh sx hx,ob,kh sy hy,ob,qg (by omega) (by omega),ob];by_cases c:dc x n+dc y n≤8
  ·left
   have hd:(sumD x y).take n++[(dc x n:Int)+(dc y n:Int)]=(sumD x y).take (n+1):=by
    rw[←xO 0 (show n < (sumD x y).length by omega)];have:(sumD x y).getD n 0=((dc x n+dc y n:Nat):Int):=by unfold sumD; rw[zt hn]
    rw[this]; simp
   rw[if_neg (by omega),qM (by simp only[List.length_singleton]; omega) (by simp only[List.length_singleton]; omega),ob,hd];have hI':∀m,m < n+1→dc x m+dc y m≤8:=fun m hm=> by
    by_cases e:m=n
    ·rw[e]; exact c
    ·exact hI m (by omega)
   by_cases c0:n=0
   ·subst c0
    rw[if_pos (by omega)];exact⟨_,rfl,hI',rfl⟩
   ·obtain⟨k,rfl⟩:∃k,n=k+1:=⟨n - 1,by omega⟩
    have hl:=jj hx k;rw[if_neg (by omega),F76_all sx hx,ob,F76_all sy hy,ob,F398_2_eq sx sy hx hy (by omega),ob,F398_3_eq sx sy hx hy (by omega) _ _ _ _ _ (by rw[wQ,hl]; exact dx),ob,qM (by simp only[List.length_singleton]; omega) (by simp only[List.length_singleton]; omega),ob];refine⟨_,rfl,hI',?_⟩;have e:=xO (l:=gT (sumD x y) (sumN x y)) (n:=k) [] (by omega);rw[sumM_eq hx hy hp hn]at e;rw[show k+1 - 1=k by omega,show k+1+1 - 1=k+1 by omega,←e];rfl
  ·right
   rw[if_pos (by omega)];exact⟨_,rfl,.inr ⟨fun q=> c (q n hn),rfl⟩⟩
 ·rintro _ ⟨hI,rfl⟩
  refine⟨_,rfl,.inl ⟨hI,?_⟩⟩;rw[wM (by omega),wM (by omega)]
theorem F397_1_eq{x y:qa}(sx:qw x)(sy:qw y)(hx:qp x)(hy:qp y):forR 0 ((max x.Dims.length y.Dims.length:Nat):Int) (F397_1_B x y) F397_1_D []=some (sumD x y):=by
 have hdx:=hx.dl;have hdy:=hy.dl;have e:sumD x y=coll (max x.Dims.length y.Dims.length) fun n=>[((dc x n+dc y n:Nat):Int)]:=by rw[xZ]; rfl
 rw[e];exact forR_coll (n:=max x.Dims.length y.Dims.length) _ (by omega) (fun i=> by simp) (fun n s hn hs=> by
  have dx:=jK hx n;have dy:=jK hy n;unfold F397_1_B;rw[F102_all sx hx,ob,F102_all sy hy,ob,qg (by omega) (by omega),ob,qM (by simp only[List.length_singleton]; omega) (by simp only[List.length_singleton]; omega),ob];rw[show(dc x n:Int)+(dc y n:Int)=((dc x n+dc y n:Nat):Int) by omega]) fun i s=> rfl
theorem sum_same{x y:qa}(sx:qw x)(sy:qw y):∃w c,F397 x y=some ⟨w,c⟩∧F398 x y=some ⟨w,c⟩∧((c=0∧qp x∧qp y∧y.Prime=x.Prime∧FitS x y∧w=sumC x y)∨(c≠0∧w=⟨0,[],[]⟩)):=by
 obtain⟨b,e1,e2,e3⟩:=(jm sx).same (jH sx);obtain⟨b',e1',e2',e3'⟩:=(jm sy).same (jH sy);unfold F397 F398;rw[e1,e2,ob,ob];by_cases hv:b=true
 ·have V:=e3.1 hv
  rw[if_pos hv,if_pos hv,e1',e2',ob,ob];by_cases hv':b'=true
  ·have V':=e3'.1 hv'
   have hdx:=V.dl;have hdy:=V'.dl;rw[if_pos hv',if_pos hv'];by_cases hp:x.Prime=y.Prime
   ·rw[if_pos hp,if_pos hp,max_int,F397_1_eq sx sy V V',ob]
    obtain⟨t,g1,g2⟩:=F398_1_eq sx sy V V' hp.symm;obtain⟨r1,a1,a2⟩:=F397_maps sx sy V V' hp.symm;rw[g1,ob];obtain⟨s,f1,f2⟩:=F246_eq (d:=sumD x y) (by rw[zy]; omega);have f3:s=true↔FitS x y:=f2.trans ⟨fun q n hn=> by
     have:=q n (by rw[zy]; exact hn);unfold sumD at this; rw[zt hn]at this; omega,fun q n hn=> by
     rw[zy]at hn;have:=q n hn;unfold sumD; rw[zt hn]; omega⟩
    rw[f1,ob];rcases g2 with⟨q,rfl⟩|⟨q,rfl⟩
    ·rw[if_pos (f3.2 q),F74_big (by rw[zy]; omega) (by rw[zy]; omega) fun d hd=> by
      obtain⟨n,hn,rfl⟩:=sum_dims d hd;have:=q n hn; omega,ob]
     simp only;rw[a1,ob,a2,ob];exact⟨_,_,rfl,rfl,.inl ⟨rfl,V,V',hp.symm,q,rfl⟩⟩
    ·rw[if_neg (fun c=> q (f3.1 c))]
     exact⟨_,_,rfl,rfl,.inr ⟨by decide,rfl⟩⟩
   ·rw[if_neg hp,if_neg hp]
    exact⟨_,_,rfl,rfl,.inr ⟨by decide,rfl⟩⟩
  ·rw[if_neg hv',if_neg hv']
   exact⟨_,_,rfl,rfl,.inr ⟨by decide,rfl⟩⟩
 ·rw[if_neg hv,if_neg hv]
  exact⟨_,_,rfl,rfl,.inr ⟨by decide,rfl⟩⟩
theorem sumN_rng{x y:qa}(hx:qp x)(hy:qp y)(hp:y.Prime=x.Prime){k i j:Nat}(hin:InT (zM (sumD x y)) k i j):0≤sumN x y k i j∧sumN x y k i j < x.Prime:=by
 have hp0:=hx.p.range;obtain⟨q1,q2,q3⟩:=sum_inT.1 hin;by_cases hi:i < dc x (k+1)
 ·rw[sumN_lo hx hi]
  split
  ·rename_i hj
   have c:k+1 < x.Dims.length:=Nat.lt_of_not_le fun q=> by rw[xJ q]at hi; omega
   exact(xj.self hx).rng k i j ((qX hx).2 ⟨c,hi,hj⟩)
  ·omega
 ·obtain⟨i',rfl⟩:∃i',i=dc x (k+1)+i':=⟨i - dc x (k+1),by omega⟩
  have hi':i' < dc y (k+1):=by omega
  rw[sumN_hi hx hy hi'];split
  ·omega
  ·have c:k+1 < y.Dims.length:=Nat.lt_of_not_le fun q=> by rw[xJ q]at hi'; omega
   have:=(xj.self hy).rng k i' (j - dc x k) ((qX hy).2 ⟨c,hi',by omega⟩)
   rwa[hp]at this
theorem sum_valid{x y:qa}(hx:qp x)(hy:qp y)(hp:y.Prime=x.Prime)(hF:FitS x y):qp (sumC x y):=by
 have hdx:=hx.dl;have hdy:=hy.dl;refine gT_valid hx.p (by rw[zy]; omega) (fun d hd=> by
  obtain⟨n,hn,rfl⟩:=sum_dims d hd;have:=hF n hn; omega) (fun k i j hin=> sumN_rng hx hy hp hin) fun k i l hk hi hl=>?_
 rw[sumD_at]at hi hl ⊢;have z:∀f:Nat→Int,∀n,(∀j,j < n→f j=0)→Cg x.Prime (sumI f n) 0:=fun f n h=> by rw[sumI_zero h]; exact .refl _ _
 rw[sumI_app,show(0:Int)=0+0 from rfl];by_cases ci:i < dc x (k+2)
 ·have ci':i < dc x (k+1+1):=ci
  refine Cg.add ?_ (z _ _ fun j hj=>?_)
  ·by_cases cl:l < dc x k
   ·have c:k+2 < x.Dims.length:=Nat.lt_of_not_le fun q=> by rw[xJ q]at ci; omega
    refine Cg.trans (sumI_cg fun j hj=>?_) (sq_sum hx c ci cl);rw[sumN_lo hx ci',if_pos hj,sumN_lo hx hj,if_pos cl];exact .refl _ _
   ·refine z _ _ fun j hj=>?_
    rw[sumN_lo hx hj,if_neg cl,Int.mul_zero]
  ·rw[sumN_lo hx ci',if_neg (by omega),Int.zero_mul]
 ·obtain⟨i',rfl⟩:∃i',i=dc x (k+1+1)+i':=⟨i - dc x (k+1+1),by show i=dc x (k+2)+(i - dc x (k+2)); omega⟩
  have e2:dc x (k+1+1)=dc x (k+2):=rfl;have e3:dc y (k+1+1)=dc y (k+2):=rfl;have hi':i' < dc y (k+1+1):=by omega
  refine Cg.add (z _ _ fun j hj=>?_) ?_
  ·rw[sumN_hi hx hy hi',if_pos hj,Int.zero_mul]
  ·by_cases cl:l < dc x k
   ·refine z _ _ fun j hj=>?_
    rw[sumN_hi hx hy hj,if_pos cl,Int.mul_zero]
   ·have c:k+2 < y.Dims.length:=Nat.lt_of_not_le fun q=> by rw[e3,xJ q]at hi'; omega
    have:=sq_sum hy c hi' (show l - dc x k < dc y k by omega);rw[hp]at this;refine Cg.trans (sumI_cg fun j hj=>?_) this;rw[sumN_hi hx hy hi',if_neg (by omega),sumN_hi hx hy hj,if_neg cl,Nat.add_sub_cancel_left];exact .refl _ _
theorem sum_small{x y:qa}(hx:qp x)(hy:qp y):qw (sumC x y):=by
 have hdx:=hx.dl;have hdy:=hy.dl;exact gT_small (by rw[zy]; omega) fun d hd=> by
  obtain⟨n,hn,rfl⟩:=sum_dims d hd;have:=jK hx n; have:=jK hy n; omega
theorem sum_hm'{x y:qa}(hx:qp x)(hy:qp y)(hp:y.Prime=x.Prime)(hF:FitS x y){n:Nat}(hn:n < max x.Dims.length y.Dims.length):hm (sumC x y) n=hmx x n+hmx y n:=by
 have hl:(sumC x y).Dims.length=max x.Dims.length y.Dims.length:=zy;exact sum_hm (sum_small hx hy) hx.wide hy.wide (sum_valid hx hy hp hF).wide hp rfl hl (fun m hm=> sumD_at m) (fun m hm=> sumM_eq hx hy hp (by rw[←hl]; exact hm)) (by rw[hl]; exact hn)
theorem rk_le{x:qa}(h:zw x)(n:Nat):rkC x n≤100:=by
 have hp1:1 < x.Prime:=by have:=h.p.range; omega
 unfold rkC;split
 ·rename_i hn
  obtain⟨r1,r2⟩:=jU h hn;obtain⟨E,hE, -⟩:=xe hp1 h.p.inv r2;have:=jJ hE.red;have:=dc_lew h n;rw[xy hp1 hE]; omega
 ·omega
theorem hm_rng{x:qa}(hx:qw x)(h:zw x){n:Nat}(hn:n < x.Dims.length): -1000≤hm x n∧hm x n≤1000:=by
 have a:=hm_rank hx h hn;have b:=rk_le h n;have c:=rk_le h (n - 1);have d:=dc_lew h n;split at a <;> omega
theorem zo{x:qa}:(hmL x).length=x.Dims.length:=by simp[hmL]
theorem hmL_at{x:qa}{n:Nat}(hn:n < x.Dims.length):nth (hmL x) n=hm x n:=by unfold hmL nth; rw[zt hn]
theorem hmL_rng{x:qa}(hx:qw x)(h:zw x):∀y∈hmL x, -1000≤y∧y≤1000:=fun y hy=> by
 obtain⟨n,hn,rfl⟩:=wK.1 hy;exact hm_rng hx h (wV.1 hn)
theorem hmL_sum{x:qa}(hx:qw x)(h:zw x){N:Nat}(hN:x.Dims.length≤N):sumI (nth (hmL x)) (hmL x).length=sumI (hmx x) N:=by
 obtain⟨m,rfl⟩:∃m,N=x.Dims.length+m:=⟨N - x.Dims.length,by omega⟩;rw[sumI_app,sumI_zero (f:=fun i=> hmx x (x.Dims.length+i)) fun i hi=> hmx_out (by omega),zo,Int.add_zero];exact zL fun i hi=> by rw[hmL_at hi,hmx_eq hx h hi]
theorem sumI_add{f g:Nat→Int}:∀n,sumI (fun i=> f i+g i) n=sumI f n+sumI g n
 |0=> rfl
 |n+1=> by simp only[sumI]; rw[sumI_add n]; omega
theorem sum_total{x y:qa}(sx:qw x)(sy:qw y)(hx:qp x)(hy:qp y)(hp:y.Prime=x.Prime)(hF:FitS x y):
  sumI (nth (hmL x)) (hmL x).length+sumI (nth (hmL y)) (hmL y).length=sumI (nth (hmL (sumC x y))) (hmL (sumC x y)).length:=by
 have hl:(sumC x y).Dims.length=max x.Dims.length y.Dims.length:=zy;have vz:=sum_valid hx hy hp hF;rw[hmL_sum sx hx.wide (N:=max x.Dims.length y.Dims.length) (by omega),hmL_sum sy hy.wide (N:=max x.Dims.length y.Dims.length) (by omega),zo,hl,←sumI_add];exact(zL fun i hi=> by rw[hmL_at (by rw[hl]; exact hi),sum_hm' hx hy hp hF hi]).symm
theorem F400_same{x:qa}(hx:qw x):∃w c,F400 x=some ⟨w,c⟩∧F401 x=some ⟨w,c⟩:=by
 obtain⟨b,e1,e2,e3⟩:=(jm hx).same (jH hx);unfold F400 F401;rw[e1,e2,ob,ob];by_cases hv:b=true
 ·have V:=e3.1 hv
  have hdl:=V.dl;rw[if_pos hv,if_pos hv];have key:∀ {B:Int→Int→Option (Int⊕Int)} {D:Int→Int→Option Int},(∀ (n:Nat) (s:Int),n < x.Dims.length→ -100*(n:Int)≤s∧s≤100*n→B n s=some (.inl (s+(x.Dims.getD n 0)*sgk n)))→(∀i s,D i s=some s)→∃t,forR 0 (x.Dims.length:Int) B D 0=some t∧t=sumI (fun n=> x.Dims.getD n 0*sgk n) x.Dims.length:=fun {B D} hB hD=> by
   obtain⟨t,g1,g2⟩:=qC (B:=B) (D:=D) x.Dims.length rfl (by omega) (fun n s=> s=sumI (fun n=> x.Dims.getD n 0*sgk n) n∧ -100*(n:Int)≤s∧s≤100*n) (fun t=> t=sumI (fun n=> x.Dims.getD n 0*sgk n) x.Dims.length) (s:=0) ⟨rfl,by simp,by simp⟩ (by
    rintro n s hn ⟨rfl,p2,p3⟩;left;have hd:=V.dims _ (qG hn 0);have hs: -8≤x.Dims.getD n 0*sgk n∧x.Dims.getD n 0*sgk n≤8:=by rcases sgk_rng n with q|q <;> rw[q] <;> omega
    exact⟨_,hB n _ hn ⟨p2,p3⟩,rfl,by omega,by omega⟩) fun s hs=>⟨s,hD _ _,hs.1⟩
   exact⟨t,g1,g2⟩
  obtain⟨t,g1,g2⟩:=key (B:=F400_1_B x) (D:=F400_1_D x) (fun n s hn hs=> by
   have hd:=V.dims _ (qG hn 0);have hs2: -8≤x.Dims.getD n 0*sgk n∧x.Dims.getD n 0*sgk n≤8:=by rcases sgk_rng n with q|q <;> rw[q] <;> omega
   have hc0:(n:Int).tmod 2=0∨(n:Int).tmod 2=1:=by rw[sgk_rem]; split <;> simp
   have he:1 - (n:Int).tmod 2*2=sgk n:=by rw[sgk_rem]; unfold sgk; split <;> rfl
   unfold F400_1_B;rw[qj hn 0,ob,jb (by omega),ob,qg (by omega) (by omega),ob,qg (by omega) (by omega),ob,he,qg (by omega) (by omega),ob,qg (by omega) (by omega),ob]) fun i s=> rfl
  obtain⟨t',g1',g2'⟩:=key (B:=F401_1_B x) (D:=F401_1_D x) (fun n s hn hs=> by
   have hd:=V.dims _ (qG hn 0);have hs2: -8≤x.Dims.getD n 0*sgk n∧x.Dims.getD n 0*sgk n≤8:=by rcases sgk_rng n with q|q <;> rw[q] <;> omega
   have hc0:(n:Int).tmod 2=0∨(n:Int).tmod 2=1:=by rw[sgk_rem]; split <;> simp
   have he:1 - 2*(n:Int).tmod 2=sgk n:=by rw[sgk_rem]; unfold sgk; split <;> rfl
   unfold F401_1_B;rw[qj hn 0,ob,jb (by omega),ob,qg (by omega) (by omega),ob,qg (by omega) (by omega),ob,he,qg (by omega) (by omega),ob,qg (by omega) (by omega),ob]) fun i s=> rfl
  rw[g1,g1',ob,ob,g2,g2'];exact⟨_,_,rfl,rfl⟩
 ·rw[if_neg hv,if_neg hv]
  exact⟨_,_,rfl,rfl⟩
theorem F403_same{x:qa}(hx:qw x){k:Int}(hk: -4611686018427387904≤k∧k≤4611686018427387904):∃w c,F403 x k=some ⟨w,c⟩∧F404 x k=some ⟨w,c⟩:=by
 have hxd:=hx.d;obtain⟨b,e1,e2,e3⟩:=(jm hx).same (jH hx);unfold F403 F404 F62 F420;rw[e1,e2,ob,ob];by_cases hv:b=true
 ·have V:=e3.1 hv
  have hdl:=V.dl;rw[if_pos hv,if_pos hv,xk hx.d,ob,qg (by omega) (by omega),ob,F56_eq,jM,ob];by_cases c:0≤k∧k≤(x.Dims.length:Int) - 1
  ·obtain⟨n,rfl⟩:∃n:Nat,k=n:=⟨k.toNat,by omega⟩
   obtain⟨h1,h2, -⟩:=hm_eqw hx V.wide (n:=n) (by omega);rw[if_pos (by simpa using c),ob,ob,if_pos rfl,if_pos rfl,h1,h2,ob];exact⟨_,_,rfl,rfl⟩
  ·rw[if_neg (by simpa using c)]
   exact⟨_,_,rfl,rfl⟩
 ·rw[if_neg hv,if_neg hv]
  exact⟨_,_,rfl,rfl⟩
theorem wide_small{x:qa}(h:zw x):qw x:=by
 have hml:=h.ml;have hdl:=h.dl;refine⟨by omega,by omega,fun m hm=>?_⟩;obtain⟨k,hk,rfl⟩:=wT hm;obtain⟨r1,r2⟩:=jU h (k:=k) (by omega);rw[mapsD hk]at r1 r2;have a:=dc_lew h (k+1);have b:=dc_lew h k;exact⟨by omega,fun r hr=> by have:=(r2 r hr).len; omega⟩
theorem vec_of{p:Int}{w:Nat}{v:List Int}(hl:v.length=w)(h:∀y∈v,0≤y∧y < p):qH p w v:=⟨hl,fun j hj=> by
 rw[qO (by omega)]; exact h _ (wC (by omega))⟩
theorem xX{α:Type}{l m:List α}{k:Nat}{d:α}(h:k < l.length):(l++m).getD k d=l.getD k d:=by
 rw[List.getD_eq_getElem?_getD,List.getElem?_append_left h,List.getD_eq_getElem?_getD]
theorem getD_app_one{α:Type}{l:List α}{y d:α}:(l++[y]).getD l.length d=y:=by
 rw[List.getD_eq_getElem?_getD,List.getElem?_append_right (wE _),uL]; rfl
theorem wide_snoc{x:qa}(h:zw x){d:Nat}{rows:List (List Int)}(hd:d≤8)(hr:rows.length=d)(hR:Rows x.Prime (dc x (x.Dims.length - 1)) rows)(hl:x.Dims.length≤99):zw ⟨x.Prime,x.Dims++[(d:Int)],x.Maps++[rows]⟩:=by
 have hml:=h.ml;have hdl:=h.dl;refine⟨h.p,by simp; omega,by simp; omega,fun e he=>?_,fun k hk=>?_⟩
 ·rcases wW.1 he with q|q
  ·exact h.dims e q
  ·rw[List.mem_singleton.1 q]; omega
 ·simp only[wL,List.length_singleton]at hk
  unfold jL;simp only;by_cases c:k < x.Maps.length
  ·have:=h.tab k c
   unfold jL at this;rw[xX (by omega),xX (by omega),xX c];exact this
  ·have hk':k=x.Maps.length:=by omega
   have e1:(x.Dims++[(d:Int)]).getD (k+1) 0=(d:Int):=by rw[show k+1=x.Dims.length by omega,getD_app_one]
   have e2:(x.Dims++[(d:Int)]).getD k 0=(dc x (x.Dims.length - 1):Int):=by
    rw[xX (by omega),show k=x.Dims.length - 1 by omega];exact dc_atw h (by omega)
   rw[e1,e2,hk',getD_app_one];refine⟨by omega,fun r hr'=>?_⟩;have v:=hR r hr';refine⟨by rw[v.len],fun y hy=>?_⟩;obtain⟨j,hj,rfl⟩:=wT hy;have:=v.rng j (by have:=v.len; omega)
   rwa[qO hj]at this
structure DrawnC (x:qa):Prop where
 w:zw x
 l:x.Dims.length≤6
 d:∀e∈x.Dims,0≤e∧e≤8
theorem drawOf_ok{s:qi}(hs:zY s){p:Int}(hp:IsP p){D:List Int}(hl:1≤D.length∧D.length≤6)(hD:∀d∈D,0≤d∧d≤8):∃x s',F417 s p D=some ⟨x,s'⟩∧zY s'∧DrawnC x∧x.Prime=p∧x.Dims=D:=by
 have hpr:=hp.range;have d0:=hD _ (qG (show 0 < D.length by omega) 0);unfold F417;rw[show(0:Int)=((0:Nat):Int) from rfl,qj (show 0 < D.length by omega) 0,ob];obtain⟨t,g1,g2⟩:=forR_from (B:=F417_1_B p D) (D:=F417_1_D) (lo:=1) (hi:=(D.length:Int)) 1 D.length rfl rfl hl.1 (by omega) (fun n s=> 1≤n∧zY s.1∧zw s.2∧s.2.Prime=p∧s.2.Dims=D.take n) (fun t=> zY t.1∧zw t.2∧t.2.Prime=p∧t.2.Dims=D) (s:=(s,⟨p,[D.getD 0 0],[]⟩)) ⟨wE _,hs,⟨hp,by simp,by simp,fun e he=> by rw[List.mem_singleton.1 he]; omega,fun k hk=> absurd hk (by simp)⟩,rfl,by
   obtain⟨a,r,rfl⟩:∃a r,D=a::r:=by cases D with|nil=> simp at hl|cons a r=> exact⟨a,r,rfl⟩
   rfl⟩ (by
  rintro n ⟨q,x⟩ hn ⟨h1,h2,h3,h4,h5⟩;left;simp only at h2 h3 h4 h5;obtain⟨m,rfl⟩:∃m,n=m+1:=⟨n - 1,by omega⟩;have hxl:x.Dims.length=m+1:=by rw[h5,vG]; omega
  obtain⟨K,k1, -,k3, -⟩:=cyc_wide (wide_small h3) h3 (n:=m) (by omega);rw[h4]at k3;have hKl:=jJ k3;have hml:=h3.ml;have hdm:D.getD m 0=(dc x m:Int):=by
   rw[←dc_atw h3 (show m < x.Dims.length by omega),h5,List.getD_eq_getElem?_getD,List.getD_eq_getElem?_getD,List.getElem?_take_of_lt (by omega)]
  have hd8:=hD _ (qG (show m < D.length by omega) 0);have hdn:=hD _ (qG hn 0);obtain⟨d,hd⟩:∃d:Nat,D.getD (m+1) 0=(d:Int):=⟨(D.getD (m+1) 0).toNat,by omega⟩;have L:∃t,ze (F417_2_S p D K ((m+1:Nat):Int)) ((q,[]),0)=some t∧(zY t.1∧t.2.length=d∧Rows p (dc x m) t.2):=by
   refine qU (S:=F417_2_S p D K ((m+1:Nat):Int)) (fun s=>((d:Int) - s.2).toNat) (fun s=>∃i:Nat,i≤d∧s.2=(i:Int)∧zY s.1.1∧s.1.2.length=i∧Rows p (dc x m) s.1.2) _ ⟨0,by omega,rfl,h2,rfl,fun r hr=> nomatch hr⟩ ?_;rintro⟨⟨u,R⟩,i'⟩ ⟨i,p1,p2,p3,p4,p5⟩;simp only at p2 p3 p4 p5;subst p2;unfold F417_2_S;simp only;rw[qj hn 0,ob,hd];by_cases c:i < d
   ·left
    obtain⟨v,u',e1,f1,f2,f3⟩:=vector_ok p3 (show 1≤p by omega) (n:=K.length) (by omega);have hv:qH p K.length v:=vec_of f2 f3;have H:LinOK p (dc x m) v K:=xU hp rfl k3.ok (by omega) (by omega) hv;rw[if_pos (by omega),e1,ob,qg (by omega) (by omega),ob,show((m+1:Nat):Int) - 1=(m:Int) by omega,qj (show m < D.length by omega) 0,ob,hdm,F80_eq H rfl,ob,qM (by simp only[List.length_singleton]; omega) (by simp only[List.length_singleton]; omega),ob,qg (by omega) (by omega),ob];refine⟨_,rfl,⟨i+1,by omega,rfl,f1,by simp[p4],fun r hr=>?_⟩,by simp only; omega⟩;rcases wW.1 hr with z|z
    ·exact p5 r z
    ·rw[List.mem_singleton.1 z]; exact xT H
   ·right
    rw[if_neg (by omega)];exact⟨_,rfl,p3,by simp only; omega,p5⟩
  obtain⟨⟨u,R⟩,l1,l2,l3,l4⟩:=L;simp only at l2 l3 l4;refine⟨(u,⟨x.Prime,x.Dims++[(d:Int)],x.Maps++[R]⟩),?_,by omega,l2,wide_snoc h3 (by omega) l3 (by rw[hxl,h4]; exact l4) (by omega),h4,?_⟩
  ·unfold F417_1_B
   simp only;rw[qg (by omega) (by omega),ob,show((m+1:Nat):Int) - 1=(m:Int) by omega,k1,ob,l1,ob,qj hn 0,ob,hd,qM (by simp only[List.length_singleton]; omega) (by simp only[List.length_singleton]; omega),ob,qM (by simp only[List.length_singleton]; omega) (by simp only[List.length_singleton]; omega),ob]
  ·simp only
   rw[h5,←hd];exact xO 0 hn) (by
  rintro⟨q,x⟩ ⟨h1,h2,h3,h4,h5⟩;exact⟨_,rfl,h2,h3,h4,by simp only at h5 ⊢; rw[h5,wM (by omega)]⟩)
 rw[g1,ob];obtain⟨f1,f2,f3,f4⟩:=g2;exact⟨t.2,t.1,rfl,f1,⟨f2,by rw[f4]; exact hl.2,by rw[f4]; exact hD⟩,f3,f4⟩
theorem draw_ok{s:qi}(hs:zY s):∃x s',F415 s=some ⟨x,s'⟩∧zY s'∧DrawnC x:=by
 unfold F415 F423;obtain⟨p,s1,e1,k1,k2⟩:=pick_ok hs (l:=[2,2,3,3,5,7]) (by simp) (by simp);have hp:IsP p:=by
  simp only[wZ,yI,or_false]at k2;unfold IsP; omega
 obtain⟨a,s2,e2,k3,k4,k5, -⟩:=jq k1 6;have k5':=k5 (by omega);obtain⟨b,s3,e3,k6,k7⟩:=pick_ok k3 (l:=[0,1,2,2,3,a]) (by simp) (by simp);have hb:0≤b∧b≤5:=by
  simp only[wZ,yI,or_false]at k7;omega
 rw[e1,ob,ob];simp only;rw[e2,ob];simp only;rw[e3,ob];simp only;rw[qg (by omega) (by omega),ob];obtain⟨N,hN⟩:∃N:Nat,1+b=(N:Int):=⟨(1+b).toNat,by omega⟩;rw[hN];have L:∃t,ze (F415_1_S ⟨p,s1⟩) (s3.code,s3.at_,s3.hash,[],(N:Int))=some t∧(∃ (q:qi) (o:List Int),t=(q.code,q.at_,q.hash,o)∧zY q∧o.length=N∧∀d∈o,0≤d∧d≤8):=by
  refine qU (S:=F415_1_S ⟨p,s1⟩) (fun s=>(s.2.2.2.2).toNat) (fun s=>∃ (q:qi) (o:List Int) (m:Nat),s=(q.code,q.at_,q.hash,o,(m:Int))∧zY q∧o.length+m=N∧∀d∈o,0≤d∧d≤8) _ ⟨s3,[],N,rfl,k6,by simp,fun y hy=> nomatch hy⟩ ?_;rintro _ ⟨q,o,m,rfl,h1,h2,h3⟩;unfold F415_1_S;simp only;by_cases cm:0 < (m:Int)
  ·left
   obtain⟨c,q1,f1,f2,f3,f4, -⟩:=jq h1 9;have f4':=f4 (by omega);obtain⟨y,q2,i1,i2,i3⟩:=pick_ok f2 (l:=[0,1,1,2,2,3,4,c]) (by simp) (by simp);have hy:0≤y∧y≤8:=by
    simp only[wZ,yI,or_false]at i3;omega
   rw[if_pos cm,f1,ob];simp only;rw[i1,ob,qM (by simp; omega) (by simp; omega),ob,qg (by omega) (by omega),ob];refine⟨_,rfl,⟨q2,o++[y],m - 1,by simp only[wF,true_and]; omega,i2,by simp; omega,fun z hz=>?_⟩,by simp only; omega⟩;rcases wW.1 hz with hz|hz
   ·exact h3 z hz
   ·rw[List.mem_singleton.1 hz]; exact hy
  ·right
   rw[if_neg cm];exact⟨_,rfl,q,o,rfl,h1,by omega,h3⟩
 obtain⟨_,g1,q,o,rfl,h1,h2,h3⟩:=L;rw[g1,ob];simp only;obtain⟨x,s',e4,j1,j2, -⟩:=drawOf_ok h1 hp (D:=o) (by omega) h3;have e4':F417 ⟨q.code,q.at_,q.hash⟩ p o=some ⟨x,s'⟩:=e4;rw[e4',ob];exact⟨x,s',rfl,j1,j2⟩
theorem shp_small{s u:T3s}(h:Shp s u)(hu:SmallT u):SmallT s:=by
 refine⟨by rw[h.l]; exact hu.m,fun m hm=>?_⟩;obtain⟨k,hk,rfl⟩:=wT hm;have hk':k < u.length:=by rw[←h.l]; exact hk
 have a:=hu.r _ (qG hk' []);have e:s.getD k []=s[k]:=by simp[hk]
 have t:=h.t k hk';rw[e]at t;refine⟨by omega,fun r hr=>?_⟩;obtain⟨i,hi,rfl⟩:=wT hr;have hi':i < (u.getD k []).length:=by omega
 have b:=a.2 _ (qG hi' []);have e2:(s[k]).getD i []=(s[k])[i]:=by simp[hi]
 have r2:=h.r k hk' i hi';rw[e,e2]at r2;omega
theorem bad_loop2{p:Int}(hp:2≤p∧p≤7){u:T3s}(hu:SmallT u){k:Nat}(hk:k < u.length){q:qi}{ms:T3s}(hq:zY q)(hs:Shp ms u):∃t,ze (F421_2_S p (k:Int)) ((q,ms),0)=some t∧zY t.1∧Shp t.2 u:=by
 have ha:=hu.r _ (qG hk []);refine qU (S:=F421_2_S p (k:Int)) (fun s=>(((u.getD k []).length:Int) - s.2).toNat) (fun s=>∃i:Nat,i≤(u.getD k []).length∧s.2=(i:Int)∧zY s.1.1∧Shp s.1.2 u) _ ⟨0,by omega,rfl,hq,hs⟩ ?_;rintro⟨⟨q,ms⟩,i'⟩ ⟨i,p1,p2,p3,p4⟩;simp only at p2 p3 p4;subst p2;have hk':k < ms.length:=by rw[p4.l]; exact hk
 have ht:=p4.t k hk;unfold F421_2_S;simp only;rw[qj hk' [],ob];by_cases c:i < (u.getD k []).length
 ·left
  have hi:i < (ms.getD k []).length:=by omega
  have hr:=p4.r k hk i c;have hb:=ha.2 _ (qG c []);rw[if_pos (by omega),qj hi [],ob];by_cases c2:0 < ((ms.getD k []).getD i []).length
  ·obtain⟨j,q1,e1,k1,k2,k3, -⟩:=jq p3 (((ms.getD k []).getD i []).length:Int)
   have k3':=k3 (by omega);obtain⟨j',rfl⟩:∃j':Nat,j=(j':Int):=⟨j.toNat,by omega⟩;obtain⟨v,q2,e2,i1, -⟩:=pick_ok k1 (l:=[1,p - 1,p]) (by simp) (by simp);have hj:j' < ((ms.getD k []).getD i []).length:=by omega
   rw[if_pos (by omega),e1,ob,qg (by omega) (by omega),ob];simp only;rw[e2,ob];simp only;rw[qW hj,ob,qW hi,ob,qW hk',ob,qg (by omega) (by omega),ob];refine⟨_,rfl,⟨i+1,by omega,rfl,i1,?_⟩,by simp only; omega⟩;exact(put3_shp (show InT ms k i j' from ⟨hk',hi,hj⟩) v).trans p4
  ·rw[if_neg (by omega),qg (by omega) (by omega),ob]
   exact⟨_,rfl,⟨i+1,by omega,rfl,p3,p4⟩,by simp only; omega⟩
 ·right
  rw[if_neg (by omega)];exact⟨_,rfl,p3,p4⟩
theorem bad_loop1{p:Int}(hp:2≤p∧p≤7){u:T3s}(hu:SmallT u){q:qi}(hq:zY q):∃t,ze (F421_1_S p) ((q,u),0)=some t∧zY t.1∧Shp t.2 u:=by
 have hm:=hu.m;refine qU (S:=F421_1_S p) (fun s=>((u.length:Int) - s.2).toNat) (fun s=>∃i:Nat,i≤u.length∧s.2=(i:Int)∧zY s.1.1∧Shp s.1.2 u) _ ⟨0,by omega,rfl,hq,.refl _⟩ ?_;rintro⟨⟨q,ms⟩,i'⟩ ⟨i,p1,p2,p3,p4⟩;simp only at p2 p3 p4;subst p2;have hl:=p4.l;unfold F421_1_S;simp only;by_cases c:i < u.length
 ·left
  obtain⟨t,g1,g2,g3⟩:=bad_loop2 hp hu c p3 p4;rw[if_pos (by omega),g1,ob,qg (by omega) (by omega),ob];exact⟨_,rfl,⟨i+1,by omega,rfl,g2,g3⟩,by simp only; omega⟩
 ·right
  rw[if_neg (by omega)];exact⟨_,rfl,p3,p4⟩
structure LooseC (x:qa):Prop where
 s:qw x
 l:1≤x.Dims.length∧x.Dims.length≤7
theorem bad_ok{s:qi}(hs:zY s){x:qa}(h:DrawnC x):∃y s',F421 s x=some ⟨y,s'⟩∧zY s'∧LooseC y:=by
 have hp:=h.w.p.range;have hS:=wide_small h.w;have hdl:=h.w.dl;have hl:=h.l;obtain⟨k,s1,e1,k1,k2,k3, -⟩:=jq hs 40;unfold F421;rw[e1,ob];simp only;by_cases c0:k=0
 ·obtain⟨v,s2,e2,i1, -⟩:=pick_ok k1 (l:=[0,4,11]) (by simp) (by simp)
  rw[if_pos c0,e2,ob];exact⟨_,_,rfl,i1,⟨hS.d,hS.m,hS.r⟩,hdl.1,by simp only; omega⟩
 rw[if_neg c0];by_cases c1:k=1
 ·obtain⟨i,s2,e2,i1,i2,i3, -⟩:=jq k1 (x.Dims.length:Int)
  have i3':=i3 (by omega);obtain⟨i',rfl⟩:∃i':Nat,i=(i':Int):=⟨i.toNat,by omega⟩;obtain⟨v,s3,e3,j1, -⟩:=pick_ok i1 (l:=[(-1),9,1]) (by simp) (by simp);rw[if_pos c1,F94_eq hS.d,ob,e2,ob];simp only;rw[e3,ob];simp only;rw[qW (by omega),ob];exact⟨_,_,rfl,j1,⟨by simp only[yQ]; exact hS.d,hS.m,hS.r⟩,by simp only[yQ]; omega⟩
 rw[if_neg c1];by_cases c2:k=2
 ·rw[if_pos c2,F94_eq hS.d,ob,qM (by simp only[List.length_singleton]; omega) (by simp only[List.length_singleton]; omega),ob]
  exact⟨_,_,rfl,k1,⟨by simp only[wL,List.length_singleton]; omega,hS.m,hS.r⟩,by simp only[wL,List.length_singleton]; omega⟩
 rw[if_neg c2];by_cases c3:k=3
 ·obtain⟨t,g1,g2,g3⟩:=bad_loop1 hp (u:=x.Maps) ⟨hS.m,hS.r⟩ k1
  rw[if_pos c3,F55_eq hS,ob,g1,ob];have hT:=shp_small g3 ⟨hS.m,hS.r⟩;exact⟨_,_,rfl,g2,⟨hS.d,hT.m,hT.r⟩,hdl.1,by simp only; omega⟩
 rw[if_neg c3];exact⟨_,_,rfl,k1,hS,hdl.1,by omega⟩
theorem spoil_ok{s:qi}(hs:zY s):∃x s',F406 s=some ⟨x,s'⟩∧zY s'∧LooseC x:=by
 obtain⟨x,s1,e1,k1,k2⟩:=draw_ok hs;obtain⟨y,s2,e2,i1,i2⟩:=bad_ok k1 k2;unfold F406;rw[e1,ob];simp only;rw[e2,ob];exact⟨_,_,rfl,i1,i2⟩
structure CodeOK (code:List U8):Prop where
 l:code.length≤1099511627776
 b:∀b∈code,0≤b.val∧b.val≤255
theorem one_ok{code:List U8}(h:CodeOK code):∃x s s',F405 code=some s∧F406 s=some ⟨x,s'⟩∧zY s'∧LooseC x:=by
 obtain⟨s,e1,k1⟩:=from_ok h.l h.b;obtain⟨x,s',e2,k2,k3⟩:=spoil_ok k1;exact⟨x,s,s',e1,e2,k2,k3⟩
theorem dual_draw{code:List U8}(h:CodeOK code):∃x,F389 code=some x∧LooseC x:=by
 obtain⟨x,s,s',e1,e2, -,k3⟩:=one_ok h;unfold F389;rw[e1,ob,e2,ob];exact⟨_,rfl,k3⟩
theorem euler_draw{code:List U8}(h:CodeOK code):∃x,F399 code=some x∧LooseC x:=by
 obtain⟨x,s,s',e1,e2, -,k3⟩:=one_ok h;unfold F399;rw[e1,ob,e2,ob];exact⟨_,rfl,k3⟩
theorem shift_draw{code:List U8}(h:CodeOK code):∃x k,F393 code=some ⟨x,k⟩∧LooseC x∧ -4611686018427387904≤k∧k≤4611686018427387904:=by
 obtain⟨x,s,s',e1,e2,k2,k3⟩:=one_ok h;obtain⟨v,t,e3,k4,k5⟩:=near_ok k2 (m:=5) (by omega) (by omega);obtain⟨w,t2,e4,k6,k7⟩:=pick_ok k4 (l:=[0,1,1,2,v]) (by simp) (by simp);unfold F393;rw[e1,ob,e2,ob];simp only;rw[e3,ob];simp only;rw[e4,ob];refine⟨x,w,rfl,k3,?_⟩;simp only[wZ,yI,or_false]at k7;omega
theorem exact_draw{code:List U8}(h:CodeOK code):∃x k,F402 code=some ⟨x,k⟩∧LooseC x∧ -4611686018427387904≤k∧k≤4611686018427387904:=by
 obtain⟨x,s,s',e1,e2,k2,k3⟩:=one_ok h;have hl:=k3.l;obtain⟨v,t,e3,k4,k5⟩:=near_ok k2 (m:=(x.Dims.length:Int) - 1) (by omega) (by omega);unfold F402 F419;rw[e1,ob,e2,ob];simp only;rw[qg (by omega) (by omega),ob,e3,ob,ob];exact⟨x,v,rfl,k3,by omega,by omega⟩
theorem add_draw{code:List U8}(h:CodeOK code):∃x y,F396 code=some ⟨x,y⟩∧LooseC x∧LooseC y:=by
 obtain⟨x,s,s',e1,e2,k2,k3⟩:=one_ok h;obtain⟨y,s2,e3,k4,k5⟩:=draw_ok k2;obtain⟨v,s3,e4,k6, -, -, -⟩:=jq k4 14;have L:∀ {z:qa},DrawnC z→LooseC z:=fun hz=>⟨wide_small hz.w,hz.w.dl.1,by have:=hz.l; omega⟩;unfold F396;rw[e1,ob,e2,ob];simp only;rw[e3,ob];simp only;rw[e4,ob];simp only;by_cases c:0 < v
 ·obtain⟨b,f1,f2⟩:=F78_tells x.Prime
  rw[if_pos c,f1,ob];by_cases cb:b=true
  ·obtain⟨z,s4,e5, -,j2, -⟩:=drawOf_ok k6 (f2.1 cb) (D:=y.Dims) ⟨k5.w.dl.1,k5.l⟩ k5.d
   rw[if_pos cb,e5,ob];exact⟨_,_,rfl,k3,L j2⟩
  ·rw[if_neg cb]
   exact⟨_,_,rfl,k3,L k5⟩
 ·rw[if_neg c]
  exact⟨_,_,rfl,k3,L k5⟩
theorem euler_part{code:List U8}(h:CodeOK code):F425_93 code=some true:=by
 obtain⟨x,e1,hx⟩:=euler_draw h;obtain⟨w,c,e2,e3⟩:=F400_same hx.s;obtain⟨y,k,e4,hy,hk⟩:=exact_draw h;obtain⟨w2,c2,e5,e6⟩:=F403_same hy.s hk;unfold F425_93;rw[e1,ob,e2,ob,e3,ob,e4,ob];dsimp only;rw[e5,ob,e6,ob];simp only[if_true,beq_self_eq_true]
theorem sum_part{code:List U8}(h:CodeOK code):F425_92 code=some true:=by
 have hE:=euler_part h;obtain⟨x,y,e1,hx,hy⟩:=add_draw h;obtain⟨w,c,e2,e3,e4⟩:=sum_same hx.s hy.s;unfold F425_92;rw[e1,ob];dsimp only;rw[e2,ob,e3,ob];dsimp only;rw[if_pos rfl];rcases e4 with⟨rfl,V,V',hp,hF,rfl⟩|⟨hc,rfl⟩
 ·have hdx:=V.dl
  have hdy:=V'.dl;have vz:=sum_valid V V' hp hF;have sz:=sum_small V V';have hl:(sumC x y).Dims.length=max x.Dims.length y.Dims.length:=zy;rw[F392_wide vz,ob,if_pos rfl,if_pos rfl,F149_eq hx.s V,ob,F149_eq hy.s V',ob,F149_eq sz vz,ob];dsimp only;have b1:=F150_eq (l:=hmL x) (by rw[zo]; omega) (hmL_rng hx.s V.wide);have b2:=F150_eq (l:=hmL y) (by rw[zo]; omega) (hmL_rng hy.s V'.wide);have b3:=F150_eq (l:=hmL (sumC x y)) (by rw[zo,hl]; omega) (hmL_rng sz vz.wide);have bd:∀ {z:qa},qw z→qp z→ -10000≤sumI (nth (hmL z)) (hmL z).length∧sumI (nth (hmL z)) (hmL z).length≤10000:=fun {z} sz vz=> by
   have hz:=vz.dl;have key:∀n,n≤(hmL z).length→ -1000*(n:Int)≤sumI (nth (hmL z)) n∧sumI (nth (hmL z)) n≤1000*n:=fun n=> by
    induction n with
    |zero=> intro _; simp[sumI]
    |succ n ih=>
     intro hn;have:=ih (by omega);have hy:=hmL_rng sz vz.wide _ (qG (show n < (hmL z).length by omega) 0);simp only[sumI];unfold nth at this ⊢;omega
   have:=key _ (wE _);rw[zo]at this ⊢;omega
  have q1:=bd hx.s V;have q2:=bd hy.s V';rw[if_pos rfl,if_pos rfl,if_pos rfl,b1,ob,b2,ob,qg (by omega) (by omega),ob,b3,ob,if_pos (sum_total hx.s hy.s V V' hp hF)];exact hE
 ·rw[F392_none,ob,if_pos rfl,if_neg hc]
  exact hE
theorem shift_part{code:List U8}(h:CodeOK code):F425_91 code=some true:=by
 have hE:=sum_part h;obtain⟨x,k,e1,hx,hk⟩:=shift_draw h;unfold F425_91;rw[e1,ob];dsimp only;by_cases c:qp x∧0≤k∧k+x.Dims.length≤6
 ·obtain⟨V,k0,k1⟩:=c
  obtain⟨n,rfl⟩:∃n:Nat,k=(n:Int):=⟨k.toNat,by omega⟩;have hn:n+x.Dims.length≤6:=by omega
  have vz:=shift_valid hx.s V hn;have sz:=shift_small V hn;have hl:(jo x n).Dims.length=n+x.Dims.length:=zj;obtain⟨s1,s2⟩:=shift_hm' hx.s V hn;rw[F394_eq hx.s V hn,ob,F395_eq hx.s V hn,ob];dsimp only;rw[if_pos rfl,F392_wide vz,ob,if_pos rfl,if_pos rfl,F149_eq hx.s V,ob,F149_eq sz vz,ob];dsimp only;rw[if_pos rfl,if_pos rfl,qg (by rw[zo]; omega) (by rw[zo]; omega),ob,if_pos (by rw[zo,zo,hl]; omega)];have hL:hmL (jo x n)=zv n++hmL x:=xz (by rw[zo,hl,wL,zo]; simp[zv]) fun j hj=> by
   rw[zo,hl]at hj;rw[hmL_at (by omega),xA,show(zv n).length=n by simp[zv]];by_cases cj:j < n
   ·rw[if_pos cj,zh,s1 j cj]
   ·obtain⟨m,rfl⟩:∃m,j=m+n:=⟨j - n,by omega⟩
    rw[if_neg cj,yJ,hmL_at (by omega),s2 m (by omega)]
  have hzl:(zv n).length=n:=by simp[zv]
  have a1:slI (hmL (jo x n)) (n:Int) ((hmL (jo x n)).length:Int)=some (hmL x):=by
   have e:(List.take (((zv n++hmL x).length:Int)).toNat (zv n++hmL x)).drop ((n:Int)).toNat=hmL x:=by
    rw[vJ,vJ,vI];exact List.drop_left' hzl
   unfold slI;rw[hL,if_pos (by rw[wL]; omega),e]
  have a2:slI (hmL (jo x n)) 0 (n:Int)=some (zv n):=by
   have e:(List.take ((n:Int)).toNat (zv n++hmL x)).drop ((0:Int)).toNat=zv n:=by
    rw[vJ];exact List.take_left' hzl
   unfold slI;rw[hL,if_pos (by rw[wL]; omega),e]
  rw[a1,ob,F156_same (by rw[zo]; omega),ob,if_pos rfl,a2,ob,F150_eq (by omega) (fun y hy=> by have:=(List.mem_replicate.1 hy).2; omega),ob,if_pos (sumI_zero fun i hi=> zh _ _)];exact hE
 ·obtain⟨c',f1,f2,f3⟩:=F394_no hx.s hk c
  rw[f1,ob,f2,ob];dsimp only;rw[if_pos rfl,F392_none,ob,if_pos rfl,if_neg f3];exact hE
theorem law60{code:List U8}(hl:code.length≤9223372036854775807)(hb:∀b∈code,0≤b.val∧b.val≤255):F425 code=some true:=by
 unfold F425 F140;rw[ob];by_cases cl:4096 < (code.length:Int)
 ·rw[if_pos (by simpa using cl)]
 rw[if_neg (by simpa using cl)];have h:CodeOK code:=⟨by omega,hb⟩;have hE:=shift_part h;obtain⟨x,e1,hx⟩:=dual_draw h;rw[e1,ob];by_cases V:qp x
 ·have hdl:=V.dl
  have vz:=dual_valid hx.s V;have sz:=dual_small hx.s V;have hdd:=F390_eq sz vz;rw[dual_dual hx.s V]at hdd;have hrl:(xm x).Dims.length=x.Dims.length:=by simp[xm]
  rw[F390_eq hx.s V,ob,F391_eq hx.s V,ob];dsimp only;rw[if_pos rfl,F392_wide vz,ob,if_pos rfl,if_pos rfl,hdd,ob,F149_eq hx.s V,ob,F149_eq sz vz,ob];dsimp only;rw[if_pos rfl,if_pos rfl,if_pos rfl,F392_wide V,ob,if_pos rfl,if_pos (by rw[zo,zo,hrl]),eq_loop' (by rw[zo]; omega) (fun n hn=> by
   rw[zo]at hn;unfold F425_1_B;dsimp only;rw[qj (by rw[zo]; exact hn) 0,ob,zo,qg (by omega) (by omega),ob,qg (by omega) (by omega),ob,show(x.Dims.length:Int) - 1 - (n:Int)=((x.Dims.length - 1 - n:Nat):Int) by omega,qj (by rw[zo,hrl]; omega) 0,ob];have e:(hmL x).getD n 0=(hmL (xm x)).getD (x.Dims.length - 1 - n) 0:=by
    have a:(hmL x).getD n 0=hm x n:=hmL_at hn;have b:(hmL (xm x)).getD (x.Dims.length - 1 - n) 0=hm (xm x) (x.Dims.length - 1 - n):=hmL_at (by rw[hrl]; omega);rw[a,b,dual_hm' hx.s V (by omega),show x.Dims.length - 1 - (x.Dims.length - 1 - n)=n by omega]
   rw[if_pos e]) fun i=> rfl,ob]
  exact hE
 ·rw[F390_no hx.s V,ob,F391_no hx.s V,ob]
  dsimp only;rw[if_pos rfl,F392_none,ob,if_pos rfl,if_neg (by decide)];exact hE
def LongU(a:U8):Prop:=0≤a.val∧a.val≤255
theorem law61{code:List U8}(h:LongL LongU code):F425 code=some true:=law60 h.1 h.2
end Rv
