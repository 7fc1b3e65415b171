/- The plain law: what the typed functions answer: part 2 -/
import Derived.Test.YtgiabfngopkpmaaGreatBsq0
namespace Rv
set_option linter.unusedVariables false
set_option linter.unusedSimpArgs false
set_option maxRecDepth 10000
theorem forI_inv{σ τ:Type}{B:Int→σ→Option (σ⊕τ)}{D:Int→σ→Option τ}(Inv:Nat→σ→Prop)(Q:τ→Prop)(n:Nat):
  ∀ (k i:Nat) (s:σ),i+k=n→Inv i s→(∀i s,i < n→Inv i s→(∃s',B i s=some (.inl s')∧Inv (i+1) s')∨∃t,B i s=some (.inr t)∧Q t)→(∀s,Inv n s→∃t,D n s=some t∧Q t)→∃t,forI B D k i s=some t∧Q t:=by
 intro k;induction k with
 |zero=>
  intro i s hk hI hb hd;have:i=n:=by omega
  subst this;exact hd s hI
 |succ k ih=>
  intro i s hk hI hb hd;simp only[forI];rcases hb i s (by omega) hI with⟨s',h1,h2⟩|⟨t,h1,h2⟩
  ·rw[h1]
   have:=ih (i+1) s' (by omega) h2 hb hd;simpa using this
  ·rw[h1]; exact⟨t,rfl,h2⟩
theorem qo{σ τ:Type}{B:Int→σ→Option (σ⊕τ)}{D:Int→σ→Option τ}{hi:Int}(n:Nat)(hn:hi=n)(hs:n < 4611686018427387904)(Inv:Nat→σ→Prop)(Q:τ→Prop){s:σ}(h0:Inv 0 s)
  (hb:∀ (i:Nat) s,i < n→Inv i s→(∃s',B i s=some (.inl s')∧Inv (i+1) s')∨∃t,B i s=some (.inr t)∧Q t) (hd:∀s,Inv n s→∃t,D n s=some t∧Q t):∃t,forR 0 hi B D s=some t∧Q t:=by
 subst hn;unfold forR;rw[if_pos (by omega)];have e:((n:Int) - 0).toNat=n:=by omega
 rw[e];exact forI_inv Inv Q n n 0 s (by omega) h0 hb hd
theorem forR_from{σ τ:Type}{B:Int→σ→Option (σ⊕τ)}{D:Int→σ→Option τ}{lo hi:Int}(l n:Nat)(hl:lo=l)(hn:hi=n)(hln:l≤n)(hs:n < 4611686018427387904)(Inv:Nat→σ→Prop)(Q:τ→Prop){s:σ}(h0:Inv l s)
  (hb:∀ (i:Nat) s,i < n→Inv i s→(∃s',B i s=some (.inl s')∧Inv (i+1) s')∨∃t,B i s=some (.inr t)∧Q t) (hd:∀s,Inv n s→∃t,D n s=some t∧Q t):∃t,forR lo hi B D s=some t∧Q t:=by
 subst hn; subst hl;unfold forR;rw[if_pos (by omega)];have e:((n:Int) - (l:Int)).toNat=n - l:=by omega
 rw[e];exact forI_inv Inv Q n (n - l) l s (by omega) h0 hb hd
theorem qA{σ τ:Type}{S:σ→Option (σ⊕τ)}(μ:σ→Nat)(Inv:σ→Prop)(Q:τ→Prop){s:σ}(h0:Inv s)
  (hb:∀s,Inv s→(∃s',S s=some (.inl s')∧Inv s'∧μ s' < μ s)∨∃t,S s=some (.inr t)∧Q t):∃t,qB S s=some t∧Q t:=by
 suffices∀k s,μ s≤k→Inv s→∃t,qB S s=some t∧Q t from this _ s (wD _) h0
 intro k;induction k with
 |zero=>
  intro s hk hI;rcases hb s hI with⟨s',h1,h2,h3⟩|⟨t,h1,h2⟩
  ·omega
  ·exact⟨t,loopW_eq.2 (.inr h1),h2⟩
 |succ k ih=>
  intro s hk hI;rcases hb s hI with⟨s',h1,h2,h3⟩|⟨t,h1,h2⟩
  ·obtain⟨t,h4,h5⟩:=ih s' (by omega) h2
   exact⟨t,loopW_eq.2 (.inl ⟨s',h1,h4⟩),h5⟩
  ·exact⟨t,loopW_eq.2 (.inr h1),h2⟩
theorem qg{α:Type}{l:List α}{i:Nat}(h:i < l.length):getI l (i:Int)=some l[i]:=by
 unfold getI;rw[if_pos (by omega)];simp[h]
theorem qn{α:Type}{l:List α}{i:Nat}(h:i < l.length)(d:α):getI l (i:Int)=some (l.getD i d):=by
 rw[qg h]; simp[h]
theorem qi{n:Int}(h0: -9223372036854775808≤n)(h1:n < 9223372036854775808):chk n=some n:=by
 unfold chk; rw[if_pos ⟨h0,h1⟩]
theorem qU{α:Type}{l:List α}{i:Nat}(h:i < l.length)(y:α):setI l (i:Int) y=some (l.set i y):=by
 unfold setI;rw[if_pos (by omega),wM]
theorem remI_ok{a b:Int}(h:b≠0):remI a b=some (a.tmod b):=by unfold remI; rw[if_neg h]
theorem mkL_ok{α:Type}{b:Nat}{n:Int}{z:α}(k:Nat)(hn:n=k)(h:k*b≤1099511627776)(h2:k≤1099511627776):mkL b n z=some (List.replicate k z):=by
 subst hn;unfold mkL;rw[if_pos ⟨by omega,by omega,by omega⟩,wM]
theorem qW{α:Type}{b:Nat}{l l':List α}(h:(l.length+l'.length)*b≤1099511627776)(h2:l.length+l'.length≤1099511627776):app b l l'=some (l++l'):=by
 unfold app; rw[if_pos ⟨h,h2⟩]
def jB(o:Option Bool)(P:Prop):Prop:=∃b,o=some b∧(b=true↔P)
theorem jB.of_true{o:Option Bool}{P:Prop}(h:o=some true)(p:P):jB o P:=⟨true,h,by simp[p]⟩
theorem jB.of_false{o:Option Bool}{P:Prop}(h:o=some false)(p:¬P):jB o P:=⟨false,h,by simp[p]⟩
theorem jB.iff{o:Option Bool}{P Q:Prop}(h:jB o P)(e:P↔Q):jB o Q:=by
 obtain⟨b,h1,h2⟩:=h; exact⟨b,h1,h2.trans e⟩
theorem jB.same{o o':Option Bool}{P:Prop}(h:jB o P)(h':jB o' P):∃b,o=some b∧o'=some b∧(b=true↔P):=by
 obtain⟨b,h1,h2⟩:=h;obtain⟨b',h3,h4⟩:=h';have:b=b':=by rw[uF]; exact h2.trans h4.symm
 exact⟨b,h1,by rw[this]; exact h3,h2⟩
theorem jB.case{o:Option Bool}{P:Prop}(h:jB o P):(o=some true∧P)∨(o=some false∧¬P):=by
 obtain⟨b,h1,h2⟩:=h;cases b with
 |true=> exact .inl ⟨h1,h2.1 rfl⟩
 |false=> exact .inr ⟨h1,fun p=> by have:=h2.2 p; cases this⟩
def IsP(p:Int):Prop:=p=2∨p=3∨p=5∨p=7
theorem IsP.range{p:Int}(h:IsP p):2≤p∧p≤7:=by unfold IsP at h; omega
def RowOK(p w:Int)(row:List Int):Prop:=(row.length:Int)=w∧∀x∈row,0≤x∧x < p
def TableOK(p c w:Int)(m:List (List Int)):Prop:=(m.length:Int)=c∧∀row∈m,RowOK p w row
theorem F54_eq(n lo hi:Int):F54 n lo hi=some (decide (lo≤n∧n≤hi)):=by
 unfold F54; by_cases h:lo≤n <;> simp[h]
theorem F56_eq(n lo hi:Int):F56 n lo hi=some (decide (lo≤n∧n≤hi)):=by
 unfold F56; by_cases h:lo≤n <;> simp[h]
theorem F78_tells(p:Int):jB (F78 p) (IsP p):=by
 unfold F78 IsP;split
 ·exact .of_true rfl (by omega)
 split
 ·exact .of_true rfl (by omega)
 split
 ·exact .of_true rfl (by omega)
 ·exact⟨_,rfl,by simp; omega⟩
theorem F67_tells(p:Int):jB (F67 p) (IsP p):=by
 unfold F67 IsP;split
 ·exact .of_true rfl (by omega)
 split
 ·exact .of_true rfl (by omega)
 split
 ·exact .of_true rfl (by omega)
 ·exact⟨_,rfl,by simp; omega⟩
theorem F79_2{p w:Int}{m:List (List Int)}(hp:2≤p∧p≤7){i:Nat}(hi:i < m.length)(hs:m[i].length≤1099511627776):
  ∃t,qB (F79_2_S p m w i) 0=some t∧((t= .inl ()∧∀x∈m[i],0≤x∧x < p)∨(t= .inr false∧¬∀x∈m[i],0≤x∧x < p)):=by
 refine qA (fun j:Int=>(m[i].length - j).toNat) (fun j=>∃n:Nat,j=n∧n≤m[i].length∧∀k (hk:k < n) (h2:k < m[i].length),0≤m[i][k]∧m[i][k] < p) _ ⟨0,rfl,by omega,fun k hk=> by omega⟩ ?_;rintro _ ⟨n,rfl,hn,hall⟩;unfold F79_2_S;simp only[qg hi,ob];by_cases hlt:(n:Int) < m[i].length
 ·have hnl:n < m[i].length:=by omega
  simp only[if_pos hlt,qg hnl,ob,qi (show(-9223372036854775808:Int)≤p - 1 by omega) (show p - 1 < 9223372036854775808 by omega),F54_eq];by_cases hx:0≤m[i][n]∧m[i][n]≤p - 1
  ·left
   refine⟨n+1,?_,⟨n+1,rfl,hnl,fun k hk h2=>?_⟩,by omega⟩
   ·simp only[hx,and_self,decide_true,if_true,qi (show(-9223372036854775808:Int)≤(n:Int)+1 by omega) (show(n:Int)+1 < 9223372036854775808 by omega),ob]
   ·by_cases e:k=n
    ·subst e; omega
    ·exact hall k (by omega) h2
  ·right
   refine⟨.inr false,?_,.inr ⟨rfl,fun ha=> hx ?_⟩⟩
   ·simp[hx]
   ·have:=ha _ (wC hnl); omega
 ·right
  refine⟨.inl (),by simp only[if_neg hlt],.inl ⟨rfl,fun x hx=>?_⟩⟩;obtain⟨k,hk,rfl⟩:=wY hx;exact hall k (by omega) hk
theorem F79_tells{p c w:Int}{m:List (List Int)}(hp:2≤p∧p≤7)(hm:m.length≤1099511627776)(hs:∀r∈m,r.length≤1099511627776):jB (F79 p m c w) (TableOK p c w m):=by
 unfold F79;by_cases hc:(m.length:Int)=c
 case neg=> rw[if_neg hc]; exact .of_false rfl fun h=> hc h.1
 rw[if_pos hc];obtain⟨t,h1,h2⟩:=qo (B:=F79_1_B p m w) (D:=F79_1_D p m w) (hi:=m.length) m.length rfl (by omega) (fun i _=>∀k (hk:k < i) (h2:k < m.length),RowOK p w m[k]) (fun t=>(t= .inl ()∧∀r∈m,RowOK p w r)∨(t= .inr false∧¬∀r∈m,RowOK p w r)) (s:=()) (fun k hk=> by omega) (fun i _ hi hI=> by
  unfold F79_1_B;simp only[qg hi,ob];by_cases hw:(m[i].length:Int)=w
  ·rw[if_pos hw]
   obtain⟨t,h1,h2⟩:=F79_2 (w:=w) hp hi (hs _ (wC hi));rw[h1];rcases h2 with⟨rfl,h2⟩|⟨rfl,h2⟩
   ·left
    refine⟨(),rfl,fun k hk h3=>?_⟩;by_cases e:k=i
    ·subst e; exact⟨hw,h2⟩
    ·exact hI k (by omega) h3
   ·right
    exact⟨_,rfl,.inr ⟨rfl,fun ha=> h2 (ha _ (wC hi)).2⟩⟩
  ·rw[if_neg hw]
   right;exact⟨_,rfl,.inr ⟨rfl,fun ha=> hw (ha _ (wC hi)).1⟩⟩) (fun _ hI=>⟨.inl (),rfl,.inl ⟨rfl,fun r hr=> by
    obtain⟨k,hk,rfl⟩:=wY hr;exact hI k hk hk⟩⟩)
 rw[h1];rcases h2 with⟨rfl,h2⟩|⟨rfl,h2⟩
 ·exact .of_true rfl ⟨hc,h2⟩
 ·exact .of_false rfl fun h=> h2 h.2
def addRow(p x:Int)(out row:List Int):List Int:=List.zipWith (fun o y=>(o+x*y).tmod p) out row
def linN(p:Int)(n:Nat)(v:List Int)(m:List (List Int)):Nat→List Int
 |0=> List.replicate n 0
 |i+1=> addRow p (v.getD i 0) (linN p n v m i) (m.getD i [])
def lin(p:Int)(n:Nat)(v:List Int)(m:List (List Int)):List Int:=linN p n v m v.length
structure LinOK (p:Int) (n:Nat) (v:List Int) (m:List (List Int)):Prop where
 hp:2≤p∧p≤7
 hv:∀x∈v,0≤x∧x < p
 hl:v.length≤m.length
 hr:∀l∈m,l.length=n∧∀y∈l,0≤y∧y < p
 hn:n≤1048576
 hvl:v.length≤1048576
theorem small_mul{p x y o:Int}(hp:2≤p∧p≤7)(hx:0≤x∧x < p)(hy:0≤y∧y < p)(ho:0≤o∧o < p):
  chk (x*y)=some (x*y)∧chk (o+x*y)=some (o+x*y)∧0≤(o+x*y).tmod p∧(o+x*y).tmod p < p:=by
 have h1:0≤x*y:=Int.mul_nonneg hx.1 hy.1;have h2:x*y≤6*6:=Int.mul_le_mul (by omega) (by omega) hy.1 (by omega);exact⟨qi (by omega) (by omega),qi (by omega) (by omega),Int.tmod_nonneg _ (by omega),Int.tmod_lt_of_pos _ (by omega)⟩
theorem ju{p x:Int}{out row:List Int}(h:row.length=out.length):(addRow p x out row).length=out.length:=by simp[addRow,h]
theorem addRow_ok{p x:Int}(hp:2≤p∧p≤7)(hx:0≤x∧x < p){out row:List Int}(ho:∀o∈out,0≤o∧o < p)(hy:∀y∈row,0≤y∧y < p):∀o∈addRow p x out row,0≤o∧o < p:=by
 intro o hm;unfold addRow at hm;obtain⟨i,hi,rfl⟩:=wY hm;simp at hi ⊢;exact(small_mul hp hx (hy _ (wC (by omega))) (ho _ (wC (by omega)))).2.2
theorem linN_ok{p:Int}{n:Nat}{v:List Int}{m:List (List Int)}(H:LinOK p n v m):∀i,i≤v.length→(linN p n v m i).length=n∧∀o∈linN p n v m i,0≤o∧o < p:=by
 intro i;induction i with
 |zero=> intro _; refine⟨by simp[linN],fun o ho=>?_⟩; simp[linN]at ho; obtain⟨_,rfl⟩:=ho; have:=H.hp; omega
 |succ i ih=>
  intro hi;obtain⟨h1,h2⟩:=ih (by omega);have e1:v.getD i 0=v[i]:=by simp[show i < v.length by omega]
  have hm:i < m.length:=by have:=H.hl; omega
  have e2:m.getD i []=m[i]:=by simp[hm]
  have hr:=H.hr _ (wC hm);simp only[linN,e1,e2];exact⟨by rw[ju (by rw[hr.1,h1]),h1],addRow_ok H.hp (H.hv _ (wC _)) h2 hr.2⟩
def upTo(p x:Int)(out row:List Int)(k:Nat):List Int:=(addRow p x out row).take k++out.drop k
theorem upTo_len{p x:Int}{out row:List Int}(h:row.length=out.length)(k:Nat)(hk:k≤out.length):(upTo p x out row k).length=out.length:=by
 simp[upTo,ju h]; omega
theorem upTo_at{p x:Int}{out row:List Int}(h:row.length=out.length){k:Nat}(hk:k < out.length)(h2:k < (upTo p x out row k).length):(upTo p x out row k)[k]=out[k]:=by
 have e:(upTo p x out row k)[k]? =some out[k]:=by
  unfold upTo;rw[List.getElem?_append_right (by simp[ju h]; omega)];simp[ju h,uC (Nat.le_of_lt hk),hk]
 rw[List.getElem?_eq_getElem h2]at e;exact wA e
theorem upTo_set{p x:Int}{out row:List Int}(h:row.length=out.length){k:Nat}(hk:k < out.length):
  (upTo p x out row k).set k ((out[k]+x*(row[k]'(by omega))).tmod p)=upTo p x out row (k+1):=by
 have hl:=ju (p:=p) (x:=x) h;unfold upTo;rw[List.set_append_right _ _ (by simp[hl]; omega),List.take_succ_eq_append_getElem (by omega:k < (addRow p x out row).length)];have e1:((addRow p x out row).take k).length=k:=by simp[hl]; omega
 rw[e1,Nat.sub_self];simp[addRow];rw[yS hk];rfl
theorem upTo_zero{p x:Int}{out row:List Int}:upTo p x out row 0=out:=by simp[upTo]
theorem upTo_all{p x:Int}{out row:List Int}(h:row.length=out.length):upTo p x out row out.length=addRow p x out row:=by
 have hl:=ju (p:=p) (x:=x) h;unfold upTo;rw[wL (by omega),List.drop_of_length_le (by omega),vF]
theorem F80_eq{p:Int}{n:Nat}{v:List Int}{m:List (List Int)}(H:LinOK p n v m){w:Int}(hw:w=n):F80 p m v w=some (lin p n v m):=by
 have hn:=H.hn;have hvl:=H.hvl;have hlm:=H.hl;unfold F80;rw[mkL_ok n hw (by omega) (by omega),ob];obtain⟨t,h1,rfl⟩:=qo (B:=F80_1_B p m v) (D:=F80_1_D p m v) (hi:=v.length) v.length rfl (by omega) (fun i s=> s=linN p n v m i) (fun t=> t=lin p n v m) (s:=List.replicate n 0) rfl (fun i s hi hI=> by
  subst hI;left;obtain⟨q1,q2⟩:=linN_ok H i (by omega);have hm:i < m.length:=by omega
  obtain⟨r1,r2⟩:=H.hr _ (wC hm);have hx:=H.hv _ (wC hi);have e1:v.getD i 0=v[i]:=by simp[hi]
  have e2:m.getD i []=m[i]:=by simp[hm]
  refine⟨_,?_,rfl⟩;unfold F80_1_B;have hlen:m[i].length=(linN p n v m i).length:=by omega
  obtain⟨t,h1,rfl⟩:=qA (S:=F80_2_S p m v i) (fun s=>(n - s.2).toNat) (fun s=>∃k:Nat,k≤n∧s=(upTo p v[i] (linN p n v m i) m[i] k,(k:Int))) (fun t=> t=linN p n v m (i+1)) (s:=(linN p n v m i,0)) ⟨0,by omega,by rw[upTo_zero]; rfl⟩ (by
   rintro _ ⟨k,hk,rfl⟩;unfold F80_2_S;have hul:=upTo_len (p:=p) (x:=v[i]) hlen k (by omega);simp only;by_cases hlt:(k:Int) < (upTo p v[i] (linN p n v m i) m[i] k).length
   ·rw[if_pos hlt]
    have hk1:k < (upTo p v[i] (linN p n v m i) m[i] k).length:=by omega
    have hk2:k < (linN p n v m i).length:=by omega
    have hk3:k < m[i].length:=by omega
    obtain⟨s1,s2,s3,s4⟩:=small_mul H.hp hx (r2 _ (wC hk3)) (q2 _ (wC hk2));have hp0:p≠0:=by have:=H.hp; omega
    left;refine⟨(upTo p v[i] (linN p n v m i) m[i] (k+1),((k+1:Nat):Int)),?_,⟨k+1,by omega,rfl⟩,by simp only; omega⟩;simp only[qg hk1,upTo_at hlen hk2 hk1,qg hi,qg hm,qg hk3,ob,s1,s2,remI_ok hp0,qU hk1,upTo_set hlen hk2,qi (show(-9223372036854775808:Int)≤(k:Int)+1 by omega) (show(k:Int)+1 < 9223372036854775808 by omega)];rfl
   ·rw[if_neg hlt]
    right;have hkn:k=(linN p n v m i).length:=by omega
    refine⟨_,rfl,?_⟩;rw[hkn,upTo_all hlen];simp only[linN,e1,e2])
  rw[h1];rfl) (fun s hI=>⟨_,rfl,hI⟩)
 rw[h1];rfl
theorem F119_2_eq{p:Int}{n:Nat}{v:List Int}{m:List (List Int)}(H:LinOK p n v m){i:Nat}(hi:i < v.length)(hm:i < m.length):
  forR 0 (m[i].length:Int) (F119_2_B p v m i v[i] m[i]) (F119_2_D p v m i v[i] m[i]) (linN p n v m i)=some (linN p n v m (i+1)):=by
 have hn:=H.hn;obtain⟨q1,q2⟩:=linN_ok H i (by omega);obtain⟨r1,r2⟩:=H.hr _ (wC hm);have hx:=H.hv _ (wC hi);have e1:v.getD i 0=v[i]:=by simp[hi]
 have e2:m.getD i []=m[i]:=by simp[hm]
 have hlen:m[i].length=(linN p n v m i).length:=by omega
 have hp0:p≠0:=by have:=H.hp; omega
 obtain⟨t,h1,rfl⟩:=qo (B:=F119_2_B p v m i v[i] m[i]) (D:=F119_2_D p v m i v[i] m[i]) (hi:=m[i].length) m[i].length rfl (by omega) (fun k s=> s=upTo p v[i] (linN p n v m i) m[i] k) (fun t=> t=linN p n v m (i+1)) (s:=linN p n v m i) upTo_zero.symm (by
  intro k s hk hI;subst hI;left;have hul:=upTo_len (p:=p) (x:=v[i]) hlen k (by omega);have hk1:k < (upTo p v[i] (linN p n v m i) m[i] k).length:=by omega
  have hk2:k < (linN p n v m i).length:=by omega
  obtain⟨s1,s2,s3,s4⟩:=small_mul H.hp hx (r2 _ (wC hk)) (q2 _ (wC hk2));refine⟨_,?_,rfl⟩;unfold F119_2_B;simp only[qg hk,qg hk1,upTo_at hlen hk2 hk1,ob,s1,s2,remI_ok hp0,qU hk1,upTo_set hlen hk2]) (by
  intro s hI;refine⟨s,rfl,?_⟩;rw[hI,hlen,upTo_all hlen];simp only[linN,e1,e2])
 exact h1
theorem F119_1_eq{p:Int}{n:Nat}{v:List Int}{m:List (List Int)}(H:LinOK p n v m)(i:Nat)(hi:i < v.length):F119_1_B p v m (i:Int) (linN p n v m i)=some (.inl (linN p n v m (i+1))):=by
 have hlm:=H.hl;have hm:i < m.length:=by omega
 unfold F119_1_B;rw[qg hi,ob,qg hm,ob,F119_2_eq H hi hm,ob]
theorem F119_eq{p:Int}{n:Nat}{v:List Int}{m:List (List Int)}(H:LinOK p n v m){w:Int}(hw:w=n):F119 p w v m=some (lin p n v m):=by
 have hn:=H.hn;have hvl:=H.hvl;have hs:v.length < 4611686018427387904:=by omega
 unfold F119;rw[mkL_ok n hw (by omega) (by omega),ob];obtain⟨t,h1,rfl⟩:=qo (B:=F119_1_B p v m) (D:=F119_1_D p v m) (hi:=v.length) v.length rfl hs (fun i s=> s=linN p n v m i) (fun t=> t=lin p n v m) (s:=List.replicate n 0) rfl (by
  intro i s hi hI;subst hI;left;exact⟨_,F119_1_eq H i hi,rfl⟩) (fun s hI=>⟨s,by unfold F119_1_D; rfl,hI⟩)
 rw[h1,ob]
theorem F115_eq{l:List Int}{f:Int→Option Bool}(P:Int→Bool)(hl:l.length≤1099511627776)(hf:∀x∈l,f x=some (P x)):∃i:Int,F115 l f=some i∧(0≤i↔∃x∈l,P x=true):=by
 unfold F115;have hs:l.length < 4611686018427387904:=by omega
 obtain⟨t,h1,h2⟩:=qo (B:=F115_1_B l f) (D:=F115_1_D l f) (hi:=l.length) l.length rfl hs (fun i _=>∀k (hk:k < i) (h2:k < l.length),P l[k]=false) (fun t=>(t= .inl ()∧∀x∈l,P x=false)∨∃i:Nat,t= .inr (i:Int)∧∃x∈l,P x=true) (s:=()) (fun k hk=> by omega) (by
  intro i _ hi hI;unfold F115_1_B;rw[qg hi,ob,hf _ (wC hi),ob];cases hp:P l[i]with
  |true=> right; exact⟨_,rfl,.inr ⟨i,rfl,_,wC hi,hp⟩⟩
  |false=>
   left;refine⟨(),rfl,fun k hk h2=>?_⟩;by_cases e:k=i
   ·subst e; exact hp
   ·exact hI k (by omega) h2) (by
  intro _ hI;refine⟨.inl (),rfl,.inl ⟨rfl,fun x hx=>?_⟩⟩;obtain⟨k,hk,rfl⟩:=wY hx;exact hI k hk hk)
 rw[h1];rcases h2 with⟨rfl,h2⟩|⟨i,rfl,h2⟩
 ·exact⟨-1,rfl,⟨fun h=> by omega,fun⟨x,hx,hp⟩=> by rw[h2 x hx]at hp; cases hp⟩⟩
 ·exact⟨i,rfl,⟨fun _=> h2,fun _=> Int.natCast_nonneg i⟩⟩
theorem F82_eq{l:List Int}{f:Int→Option Bool}(P:Int→Bool)(hl:l.length≤1099511627776)(hf:∀x∈l,f x=some (P x)):F82 l f=some (l.any P):=by
 obtain⟨i,h1,h2⟩:=F115_eq P hl hf;unfold F82;rw[h1,ob];have:decide (0≤i)=l.any P:=by
  rw[uF];simp only[decide_eq_true_eq,vX];exact h2
 rw[this]
theorem F128_eq{l:List (List Int)}{f:List Int→Option Bool}(P:List Int→Bool)(hl:l.length≤1099511627776)(hf:∀x∈l,f x=some (P x)):∃i:Int,F128 l f=some i∧(0≤i↔∃x∈l,P x=true):=by
 unfold F128;have hs:l.length < 4611686018427387904:=by omega
 obtain⟨t,h1,h2⟩:=qo (B:=xB l f) (D:=F128_1_D l f) (hi:=l.length) l.length rfl hs (fun i _=>∀k (hk:k < i) (h2:k < l.length),P l[k]=false) (fun t=>(t= .inl ()∧∀x∈l,P x=false)∨∃i:Nat,t= .inr (i:Int)∧∃x∈l,P x=true) (s:=()) (fun k hk=> by omega) (by
  intro i _ hi hI;unfold xB;rw[qg hi,ob,hf _ (wC hi),ob];cases hp:P l[i]with
  |true=> right; exact⟨_,rfl,.inr ⟨i,rfl,_,wC hi,hp⟩⟩
  |false=>
   left;refine⟨(),rfl,fun k hk h2=>?_⟩;by_cases e:k=i
   ·subst e; exact hp
   ·exact hI k (by omega) h2) (by
  intro _ hI;refine⟨.inl (),rfl,.inl ⟨rfl,fun x hx=>?_⟩⟩;obtain⟨k,hk,rfl⟩:=wY hx;exact hI k hk hk)
 rw[h1];rcases h2 with⟨rfl,h2⟩|⟨i,rfl,h2⟩
 ·exact⟨-1,rfl,⟨fun h=> by omega,fun⟨x,hx,hp⟩=> by rw[h2 x hx]at hp; cases hp⟩⟩
 ·exact⟨i,rfl,⟨fun _=> h2,fun _=> Int.natCast_nonneg i⟩⟩
theorem F117_eq{l:List (List Int)}{f:List Int→Option Bool}(P:List Int→Bool)(hl:l.length≤1099511627776)(hf:∀x∈l,f x=some (P x)):F117 l f=some (l.any P):=by
 obtain⟨i,h1,h2⟩:=F128_eq P hl hf;unfold F117;rw[h1,ob];have:decide (0≤i)=l.any P:=by
  rw[uF];simp only[decide_eq_true_eq,vX];exact h2
 rw[this]
def rowB(p w:Int)(row:List Int):Bool:=decide ((row.length:Int)=w)&& row.all fun x=> decide (0≤x∧x < p)
theorem rowB_iff{p w:Int}{row:List Int}:rowB p w row=true↔RowOK p w row:=by
 unfold rowB RowOK;simp only[wN,decide_eq_true_eq,wT]
theorem F130_eq{p:Int}(hp:2≤p∧p≤7)(x:Int):F130 x p=some (!decide (0≤x∧x < p)):=by
 unfold F130;rw[qi (by omega) (by omega),ob,F56_eq,ob]
 congr 3
 exact propext ⟨fun h=>⟨h.1,by omega⟩,fun h=>⟨h.1,by omega⟩⟩
theorem F129_eq{p w:Int}(hp:2≤p∧p≤7){l:List Int}(hl:l.length≤1099511627776):F129 p w l=some (rowB p w l):=by
 unfold F129 rowB;by_cases h:(l.length:Int)=w
 ·rw[if_pos h,F82_eq (fun x=> !decide (0≤x∧x < p)) hl (fun x _=> F130_eq hp x),ob]
  simp[h,List.not_any_eq_all_not]
 ·rw[if_neg h]; simp[h]
theorem F116_eq{p w:Int}(hp:2≤p∧p≤7){l:List Int}(hl:l.length≤1099511627776):F116 l p w=some (!rowB p w l):=by
 unfold F116; rw[F129_eq hp hl,ob]
theorem F90_eq{p w:Int}(hp:2≤p∧p≤7){m:List (List Int)}(hm:m.length≤1099511627776)(hs:∀r∈m,r.length≤1099511627776):F90 p w m=some (m.all (rowB p w)):=by
 unfold F90;rw[F117_eq (fun r=> !rowB p w r) hm (fun r hr=> F116_eq hp (hs r hr)),ob];simp[List.not_any_eq_all_not]
theorem F90_tells{p w:Int}(hp:2≤p∧p≤7){m:List (List Int)}(hm:m.length≤1099511627776)(hs:∀r∈m,r.length≤1099511627776):jB (F90 p w m) (∀r∈m,RowOK p w r):=
 ⟨_,F90_eq hp hm hs,by simp only[wT,rowB_iff]⟩
theorem F92_tells{l:List Int}(hl:l.length≤1099511627776):jB (F92 l) (∀x∈l,x=0):=by
 unfold F92;have h:F82 l (fun x=> F118 x)=some (l.any fun x=> !decide (x=0)):=F82_eq _ hl (fun x _=> rfl);rw[h,ob];exact⟨_,rfl,by simp[List.not_any_eq_all_not]⟩
theorem F81_tells{l:List Int}(hl:l.length≤1099511627776):∃i,F81 l=some i∧(0≤i↔¬∀x∈l,x=0):=by
 unfold F81;have hs:l.length < 4611686018427387904:=by omega
 obtain⟨t,h1,h2⟩:=qo (B:=F81_1_B l) (D:=F81_1_D l) (hi:=l.length) l.length rfl hs (fun i _=>∀k (hk:k < i) (h2:k < l.length),l[k]=0) (fun t=>(t= .inl ()∧∀x∈l,x=0)∨∃i:Nat,t= .inr (i:Int)∧¬∀x∈l,x=0) (s:=()) (fun k hk=> by omega) (by
  intro i _ hi hI;unfold F81_1_B;rw[qg hi,ob];by_cases hp:l[i]=0
  ·rw[if_pos hp]
   left;refine⟨(),rfl,fun k hk h2=>?_⟩;by_cases e:k=i
   ·subst e; exact hp
   ·exact hI k (by omega) h2
  ·rw[if_neg hp]
   right;exact⟨_,rfl,.inr ⟨i,rfl,fun ha=> hp (ha _ (wC hi))⟩⟩) (by
  intro _ hI;refine⟨.inl (),rfl,.inl ⟨rfl,fun x hx=>?_⟩⟩;obtain⟨k,hk,rfl⟩:=wY hx;exact hI k hk hk)
 rw[h1];rcases h2 with⟨rfl,h2⟩|⟨i,rfl,h2⟩
 ·exact⟨-1,rfl,⟨fun h=> by omega,fun h=> absurd h2 h⟩⟩
 ·exact⟨i,rfl,⟨fun _=> h2,fun _=> Int.natCast_nonneg i⟩⟩
structure jp (x:GComplex):Prop where
 d:x.Dims.length≤1048576
 m:x.Maps.length≤1048576
 r:∀m∈x.Maps,m.length≤1048576∧∀l∈m,l.length≤1048576
structure ShapeC (x:GComplex):Prop where
 p:IsP x.Prime
 dl:1≤x.Dims.length∧x.Dims.length≤6
 ml:x.Maps.length+1=x.Dims.length
 dims:∀d∈x.Dims,0≤d∧d≤8
def jR(x:GComplex)(k:Nat):Prop:=TableOK x.Prime (x.Dims.getD (k+1) 0) (x.Dims.getD k 0) (x.Maps.getD k [])
def SqAt(x:GComplex)(k:Nat):Prop:=∀row∈x.Maps.getD k [],∀y∈lin x.Prime (x.Dims.getD (k - 1) 0).toNat row (x.Maps.getD (k - 1) []),y=0
structure ValidC (x:GComplex):Prop extends ShapeC x where
 tab:∀k,k < x.Maps.length→jR x k
 sq:∀k,0 < k→k < x.Maps.length→SqAt x k
theorem lin_len{p:Int}{n:Nat}{v:List Int}{m:List (List Int)}(H:LinOK p n v m):(lin p n v m).length=n:=(linN_ok H _ (wD _)).1
theorem linOK_of{x:GComplex}(hs:ShapeC x){k:Nat}(h1:0 < k)(h2:k < x.Maps.length)(t1:jR x (k - 1))(t2:jR x k){row:List Int}(hr:row∈x.Maps.getD k []):
  LinOK x.Prime (x.Dims.getD (k - 1) 0).toNat row (x.Maps.getD (k - 1) [])∧0≤x.Dims.getD (k - 1) 0∧x.Dims.getD (k - 1) 0≤8:=by
 have hd:∀j,j < x.Dims.length→0≤x.Dims.getD j 0∧x.Dims.getD j 0≤8:=fun j hj=> by
  have:=hs.dims _ (wC hj);simpa[hj]using this
 have hml:=hs.ml;have d1:=hd (k - 1) (by omega);have d2:=hd k (by omega);obtain⟨q1,q2⟩:=t2.2 row hr;refine⟨⟨hs.p.range,q2,?_,fun l hl=>?_,?_,?_⟩,d1⟩
 ·have:=t1.1
  have e:k - 1+1=k:=by omega
  rw[e]at this;omega
 ·obtain⟨r1,r2⟩:=t1.2 l hl
  exact⟨by omega,r2⟩
 ·omega
 ·omega
theorem F86_eq{x:GComplex}(h:x.Dims.length≤1048576):F86 x=some ((x.Dims.length:Int) - 1):=by
 unfold F86; rw[qi (by omega) (by omega),ob]
theorem mapsD{x:GComplex}{k:Nat}(h:k < x.Maps.length):x.Maps.getD k []=x.Maps[k]:=by simp[h]
theorem F39_3_eq{x:GComplex}(hs:ShapeC x){k:Nat}(h2:k < x.Maps.length)(t1:0 < k→jR x (k - 1))(t2:jR x k)(hsm:jp x):
  ∃t,qB (F39_3_S x (k:Int)) 0=some t∧((t= .inl ()∧(0 < k→SqAt x k))∨(t= .inr false∧0 < k∧¬SqAt x k)):=by
 have hml:=hs.ml;have hdl:=hs.dl;have hk:=(hsm.r _ (wC h2)).1;refine qA (fun j:Int=>(x.Maps[k].length - j).toNat) (fun j=>∃n:Nat,j=n∧n≤x.Maps[k].length∧(0 < k→∀i (hi:i < n) (h3:i < x.Maps[k].length),∀y∈lin x.Prime (x.Dims.getD (k - 1) 0).toNat x.Maps[k][i] (x.Maps.getD (k - 1) []),y=0)) _ ⟨0,rfl,by omega,fun _ i hi=> by omega⟩ ?_;rintro _ ⟨n,rfl,hn,hall⟩;unfold F39_3_S;rw[qg h2,ob];by_cases hlt:(n:Int) < x.Maps[k].length
 ·rw[if_pos hlt]
  have hnl:n < x.Maps[k].length:=by omega
  by_cases h0:0 < k
  ·rw[if_pos (by omega)]
   obtain⟨H,d0,d8⟩:=linOK_of hs h0 h2 (t1 h0) t2 (row:=x.Maps[k][n]) (by rw[mapsD h2]; exact wC hnl);have e1:((k:Int) - 1)=((k - 1:Nat):Int):=by omega
   rw[qi (by omega) (by omega),ob,e1,qn (show k - 1 < x.Maps.length by omega) [],ob,qg hnl,ob,qn (show k - 1 < x.Dims.length by omega) 0,ob,
    F80_eq H (by omega),ob]
   obtain⟨i,g1,g2⟩:=F81_tells (l:=lin x.Prime (x.Dims.getD (k - 1) 0).toNat x.Maps[k][n] (x.Maps.getD (k - 1) [])) (by rw[lin_len H]; omega);rw[g1,ob];by_cases hz:0≤i
   ·rw[if_pos hz]
    right;refine⟨_,rfl,.inr ⟨rfl,h0,fun ha=> g2.1 hz (ha _ (by rw[mapsD h2]; exact wC hnl))⟩⟩
   ·rw[if_neg hz]
    left;rw[qi (by omega) (by omega),ob];refine⟨_,rfl,⟨n+1,rfl,hnl,fun _ i hi h3=>?_⟩,by omega⟩;by_cases e:i=n
    ·subst e
     exact vN fun hq=> hz (g2.2 hq)
    ·exact hall h0 i (by omega) h3
  ·rw[if_neg (by omega)]
   right;exact⟨_,rfl,.inl ⟨rfl,fun h=> absurd h h0⟩⟩
 ·rw[if_neg hlt]
  right;refine⟨_,rfl,.inl ⟨rfl,fun h0 row hr=>?_⟩⟩;rw[mapsD h2]at hr;obtain⟨i,hi,rfl⟩:=wY hr;exact hall h0 i (by omega) hi
theorem F39_2_eq{x:GComplex}(hs:ShapeC x)(hsm:jp x):
  ∃t,forR 0 (x.Maps.length:Int) (F39_2_B x) (F39_2_D x) ()=some t∧((t= .inl ()∧(∀k,k < x.Maps.length→jR x k)∧∀k,0 < k→k < x.Maps.length→SqAt x k)∨(t= .inr false∧¬((∀k,k < x.Maps.length→jR x k)∧∀k,0 < k→k < x.Maps.length→SqAt x k))):=by
 have hml:=hs.ml;have hm:=hsm.m;have hlen:x.Maps.length < 4611686018427387904:=by omega
 refine qo x.Maps.length rfl hlen (fun i _=>(∀k,k < i→jR x k)∧∀k,0 < k→k < i→SqAt x k) _ ⟨fun k hk=> by omega,fun k _ hk=> by omega⟩ ?_ ?_
 ·rintro i _ hi ⟨ht,hq⟩
  unfold F39_2_B;have e2:((i:Int)+1)=((i+1:Nat):Int):=by omega
  have hr:=hsm.r _ (wC hi);rw[qg hi,ob,e2,qn (show i+1 < x.Dims.length by omega) 0,ob,qn (show i < x.Dims.length by omega) 0,ob];have hT:=F79_tells (p:=x.Prime) (c:=x.Dims.getD (i+1) 0) (w:=x.Dims.getD i 0) (m:=x.Maps[i]) hs.p.range (by omega) (fun r h=> by have:=hr.2 r h; omega);rcases hT.case with⟨h1,h2⟩|⟨h1,h2⟩
  ·rw[h1,ob,if_pos rfl]
   have hti:jR x i:=by unfold jR; rw[mapsD hi]; exact h2
   obtain⟨t,g1,g2⟩:=F39_3_eq hs hi (fun h0=> ht _ (by omega)) hti hsm;rw[g1,ob];rcases g2 with⟨rfl,g2⟩|⟨rfl,g0,g2⟩
   ·left
    refine⟨(),rfl,fun k hk=>?_,fun k h0 hk=>?_⟩
    ·by_cases e:k=i
     ·subst e; exact hti
     ·exact ht k (by omega)
    ·by_cases e:k=i
     ·subst e; exact g2 h0
     ·exact hq k h0 (by omega)
   ·right
    exact⟨_,rfl,.inr ⟨rfl,fun ha=> g2 (ha.2 i g0 hi)⟩⟩
  ·rw[h1,ob,if_neg wE]
   right;refine⟨_,rfl,.inr ⟨rfl,fun ha=> h2 ?_⟩⟩;have:=ha.1 i hi;unfold jR at this;rw[mapsD hi]at this;exact this
 ·rintro _ ⟨ht,hq⟩
  exact⟨.inl (),rfl,.inl ⟨rfl,ht,hq⟩⟩
theorem F39_1_eq{x:GComplex}(hsm:jp x):∃t,forR 0 (x.Dims.length:Int) (F39_1_B x) (F39_1_D x) ()=some t∧((t= .inl ()∧∀d∈x.Dims,0≤d∧d≤8)∨(t= .inr false∧¬∀d∈x.Dims,0≤d∧d≤8)):=by
 have hm:=hsm.d;have hlen:x.Dims.length < 4611686018427387904:=by omega
 refine qo x.Dims.length rfl hlen (fun i _=>∀k (hk:k < i) (h2:k < x.Dims.length),0≤x.Dims[k]∧x.Dims[k]≤8) _ (fun k hk=> by omega) ?_ ?_
 ·rintro i _ hi hI
  unfold F39_1_B;rw[qg hi,ob,F54_eq,ob];by_cases h:0≤x.Dims[i]∧x.Dims[i]≤8
  ·rw[if_pos (by simpa using h)]
   left;refine⟨(),rfl,fun k hk h2=>?_⟩;by_cases e:k=i
   ·subst e; exact h
   ·exact hI k (by omega) h2
  ·rw[if_neg (by simpa using h)]
   right;exact⟨_,rfl,.inr ⟨rfl,fun ha=> h (ha _ (wC hi))⟩⟩
 ·rintro _ hI
  refine⟨.inl (),rfl,.inl ⟨rfl,fun d hd=>?_⟩⟩;obtain⟨k,hk,rfl⟩:=wY hd;exact hI k hk hk
theorem F39_tells{x:GComplex}(hsm:jp x):jB (F39 x) (ValidC x):=by
 have hd:=hsm.d;unfold F39;rcases(F78_tells x.Prime).case with⟨h1,hp⟩|⟨h1,hp⟩
 case inr=> rw[h1,ob,if_neg wE]; exact .of_false rfl fun h=> hp h.p
 rw[h1,ob,if_pos rfl];by_cases c1:(x.Dims.length:Int) < 1
 ·rw[if_pos c1]; exact .of_false rfl fun h=> by have:=h.dl; omega
 rw[if_neg c1];by_cases c2:6 < (x.Dims.length:Int)
 ·rw[if_pos c2]; exact .of_false rfl fun h=> by have:=h.dl; omega
 rw[if_neg c2,qi (by omega) (by omega),ob];by_cases c3:(x.Maps.length:Int)=(x.Dims.length:Int) - 1
 case neg=> rw[if_neg c3]; exact .of_false rfl fun h=> by have:=h.ml; omega
 rw[if_pos c3];obtain⟨t,g1,g2⟩:=F39_1_eq hsm;rw[g1,ob];rcases g2 with⟨rfl,g2⟩|⟨rfl,g2⟩
 case inr=> exact .of_false rfl fun h=> g2 h.dims
 have hs:ShapeC x:=⟨hp,by omega,by omega,g2⟩;obtain⟨t,k1,k2⟩:=F39_2_eq hs hsm;simp only;rw[k1,ob];rcases k2 with⟨rfl,k2,k3⟩|⟨rfl,k2⟩
 ·exact .of_true rfl ⟨hs,k2,k3⟩
 ·exact .of_false rfl fun h=> k2 ⟨h.tab,h.sq⟩
theorem F42_1_eq{x:GComplex}(hs:ShapeC x)(hsm:jp x):
  ∃t,forR 0 (x.Maps.length:Int) (F42_1_B x) (F42_1_D x) ()=some t∧((t= .inl ()∧∀k,k < x.Maps.length→jR x k)∨(t= .inr false∧¬∀k,k < x.Maps.length→jR x k)):=by
 have hml:=hs.ml;have hm:=hsm.m;have hlen:x.Maps.length < 4611686018427387904:=by omega
 refine qo x.Maps.length rfl hlen (fun i _=>∀k,k < i→jR x k) _ (fun k hk=> by omega) ?_ ?_
 ·rintro i _ hi ht
  unfold F42_1_B;have e2:((i:Int)+1)=((i+1:Nat):Int):=by omega
  have hr:=hsm.r _ (wC hi);rw[qg hi,ob,e2,qn (show i+1 < x.Dims.length by omega) 0,ob];have hti:jR x i↔((x.Maps[i].length:Int)=x.Dims.getD (i+1) 0∧∀r∈x.Maps[i],RowOK x.Prime (x.Dims.getD i 0) r):=by unfold jR; rw[mapsD hi]; rfl
  by_cases hc:(x.Maps[i].length:Int)=x.Dims.getD (i+1) 0
  ·rw[if_pos hc,qn (show i < x.Dims.length by omega) 0,ob]
   have hT:=F90_tells (p:=x.Prime) (w:=x.Dims.getD i 0) (m:=x.Maps[i]) hs.p.range (by omega) (fun r h=> by have:=hr.2 r h; omega);rcases hT.case with⟨h1,h2⟩|⟨h1,h2⟩
   ·rw[h1,ob,if_pos rfl]
    left;refine⟨(),rfl,fun k hk=>?_⟩;by_cases e:k=i
    ·subst e; exact hti.2 ⟨hc,h2⟩
    ·exact ht k (by omega)
   ·rw[h1,ob,if_neg wE]
    right;exact⟨_,rfl,.inr ⟨rfl,fun ha=> h2 (hti.1 (ha i hi)).2⟩⟩
  ·rw[if_neg hc]
   right;exact⟨_,rfl,.inr ⟨rfl,fun ha=> hc (hti.1 (ha i hi)).1⟩⟩
 ·rintro _ ht
  exact⟨.inl (),rfl,.inl ⟨rfl,ht⟩⟩
theorem F91_eq{x:GComplex}(hs:ShapeC x)(hsm:jp x){k:Nat}(h1:0 < k)(h2:k < x.Maps.length)(t1:jR x (k - 1))(t2:jR x k){row:List Int}(hr:row∈x.Maps.getD k []):
  F91 x (k:Int) row=some (lin x.Prime (x.Dims.getD (k - 1) 0).toNat row (x.Maps.getD (k - 1) [])):=by
 have hml:=hs.ml;have hdl:=hs.dl;obtain⟨H,d0,d8⟩:=linOK_of hs h1 h2 t1 t2 hr;unfold F91;have e1:((k:Int) - 1)=((k - 1:Nat):Int):=by omega
 rw[if_neg (by omega),F86_eq hsm.d,ob,if_neg (by omega),qi (by omega) (by omega),ob,e1,qn (show k - 1 < x.Dims.length by omega) 0,ob,qn (show k - 1 < x.Maps.length by omega) [],ob,
  F119_eq H (by omega),ob]
theorem F42_3_eq{x:GComplex}(hs:ShapeC x)(hsm:jp x)(ht:∀k,k < x.Maps.length→jR x k){n:Nat}(hn:2≤n)(h2:n - 1 < x.Maps.length):
  ∃t,forR 0 ((x.Maps[n - 1].length:Nat):Int) (F42_3_B x (n:Int) x.Maps[n - 1]) (F42_3_D x (n:Int) x.Maps[n - 1]) ()=some t∧((t= .inl ()∧SqAt x (n - 1))∨(t= .inr false∧¬SqAt x (n - 1))):=by
 have hml:=hs.ml;have hdl:=hs.dl;have hk:=(hsm.r _ (wC h2)).1;have hlen:x.Maps[n - 1].length < 4611686018427387904:=by omega
 refine qo x.Maps[n - 1].length rfl hlen (fun i _=>∀j (hj:j < i) (h3:j < x.Maps[n - 1].length),∀y∈lin x.Prime (x.Dims.getD (n - 1 - 1) 0).toNat x.Maps[n - 1][j] (x.Maps.getD (n - 1 - 1) []),y=0) _ (fun j hj=> by omega) ?_ ?_
 ·rintro i _ hi hI
  unfold F42_3_B;have hrow:x.Maps[n - 1][i]∈x.Maps.getD (n - 1) []:=by rw[mapsD h2]; exact wC hi
  have e1:((n:Int) - 1)=((n - 1:Nat):Int):=by omega
  have t1:=ht (n - 1 - 1) (by omega);have t2:=ht (n - 1) h2;obtain⟨H,d0,d8⟩:=linOK_of hs (by omega) h2 t1 t2 hrow;rw[qg hi,ob,qi (by omega) (by omega),ob,e1,F91_eq hs hsm (by omega) h2 t1 t2 hrow,ob];rcases(F92_tells (l:=lin x.Prime (x.Dims.getD (n - 1 - 1) 0).toNat x.Maps[n - 1][i] (x.Maps.getD (n - 1 - 1) [])) (by rw[lin_len H]; omega)).case with⟨g1,g2⟩|⟨g1,g2⟩
  ·rw[g1,ob,if_pos rfl]
   left;refine⟨(),rfl,fun j hj h3=>?_⟩;by_cases e:j=i
   ·subst e; exact g2
   ·exact hI j (by omega) h3
  ·rw[g1,ob,if_neg wE]
   right;exact⟨_,rfl,.inr ⟨rfl,fun ha=> g2 (ha _ hrow)⟩⟩
 ·rintro _ hI
  refine⟨.inl (),rfl,.inl ⟨rfl,fun row hr=>?_⟩⟩;rw[mapsD h2]at hr;obtain⟨j,hj,rfl⟩:=wY hr;exact hI j hj hj
theorem F42_2_eq{x:GComplex}(hs:ShapeC x)(hsm:jp x)(ht:∀k,k < x.Maps.length→jR x k):
  ∃t,qB (F42_2_S x) 2=some t∧((t= .inl ()∧∀k,0 < k→k < x.Maps.length→SqAt x k)∨(t= .inr false∧¬∀k,0 < k→k < x.Maps.length→SqAt x k)):=by
 have hml:=hs.ml;have hdl:=hs.dl;refine qA (fun j:Int=>(x.Dims.length+2 - j).toNat) (fun j=>∃n:Nat,j=n∧2≤n∧n≤x.Dims.length+1∧∀k,0 < k→k < n - 1→k < x.Maps.length→SqAt x k) _ ⟨2,rfl,by omega,by omega,fun k h0 hk=> by omega⟩ ?_;rintro _ ⟨n,rfl,hn,hn2,hall⟩;unfold F42_2_S;rw[F86_eq hsm.d,ob];by_cases hlt:(n:Int)≤(x.Dims.length:Int) - 1
 ·rw[if_pos hlt]
  have e1:((n:Int) - 1)=((n - 1:Nat):Int):=by omega
  have h2:n - 1 < x.Maps.length:=by omega
  rw[qi (by omega) (by omega),ob,e1,qg h2,ob];obtain⟨t,g1,g2⟩:=F42_3_eq hs hsm ht hn h2;rw[g1,ob];rcases g2 with⟨rfl,g2⟩|⟨rfl,g2⟩
  ·left
   refine⟨((n+1:Nat):Int),?_,⟨n+1,rfl,by omega,by omega,fun k h0 hk h3=>?_⟩,by omega⟩
   ·simp only
    rw[qi (by omega) (by omega),ob];rfl
   ·by_cases e:k=n - 1
    ·subst e; exact g2
    ·exact hall k h0 (by omega) h3
  ·right
   exact⟨_,rfl,.inr ⟨rfl,fun ha=> g2 (ha _ (by omega) h2)⟩⟩
 ·rw[if_neg hlt]
  right;exact⟨_,rfl,.inl ⟨rfl,fun k h0 hk=> hall k h0 (by omega) hk⟩⟩
theorem F42_tells{x:GComplex}(hsm:jp x):jB (F42 x) (ValidC x):=by
 have hd:=hsm.d;unfold F42;rcases(F67_tells x.Prime).case with⟨h1,hp⟩|⟨h1,hp⟩
 case inr=> rw[h1,ob,if_neg wE]; exact .of_false rfl fun h=> hp h.p
 rw[h1,ob,if_pos rfl,F86_eq hd,ob,F56_eq,ob];by_cases c1:0≤(x.Dims.length:Int) - 1∧(x.Dims.length:Int) - 1≤5
 case neg=> rw[if_neg (by simpa using c1)]; exact .of_false rfl fun h=> by have:=h.dl; omega
 rw[if_pos (by simpa using c1)];by_cases c3:(x.Maps.length:Int)=(x.Dims.length:Int) - 1
 case neg=> rw[if_neg c3]; exact .of_false rfl fun h=> by have:=h.ml; omega
 rw[if_pos c3];have h88:F82 x.Dims (fun y=> F88 y)=some (x.Dims.any fun d=> !decide (0≤d∧d≤8)):=F82_eq _ (by omega) (fun d _=> by unfold F88; rw[F56_eq,ob]);rw[h88,ob];have hany:(x.Dims.any fun d=> !decide (0≤d∧d≤8))=true↔¬∀d∈x.Dims,0≤d∧d≤8:=by
  simp only[vX,yI,decide_eq_false_iff_not];constructor
  ·rintro⟨d,h1,h2⟩ ha; exact h2 (ha d h1)
  ·intro hn
   exact vN fun hc=> hn fun d hd=> vN fun h=> hc ⟨d,hd,h⟩
 by_cases c4:(x.Dims.any fun d=> !decide (0≤d∧d≤8))=true
 ·rw[if_pos c4]; exact .of_false rfl fun h=> hany.1 c4 h.dims
 rw[if_neg c4];have hdims:∀d∈x.Dims,0≤d∧d≤8:=vN fun hc=> c4 (hany.2 hc);have hs:ShapeC x:=⟨hp,by omega,by omega,hdims⟩;obtain⟨t,g1,g2⟩:=F42_1_eq hs hsm;rw[g1,ob];rcases g2 with⟨rfl,ht⟩|⟨rfl,ht⟩
 case inr=> exact .of_false rfl fun h=> ht h.tab
 obtain⟨t,k1,k2⟩:=F42_2_eq hs hsm ht;simp only;rw[k1,ob];rcases k2 with⟨rfl,k2⟩|⟨rfl,k2⟩
 ·exact .of_true rfl ⟨hs,ht,k2⟩
 ·exact .of_false rfl fun h=> k2 h.sq
structure qX (x:GFiltered):Prop where
 c:jp x.Complex
 l:x.Levels.length≤1048576
 r:∀q∈x.Levels,q.length≤1048576
def numAt(ms:List (List (List Int)))(k i j:Nat):Int:=((ms.getD k []).getD i []).getD j 0
def LevAt(x:GFiltered)(k i j:Nat):Prop:=numAt x.Complex.Maps k i j=0∨(x.Levels.getD k []).getD j 0≤(x.Levels.getD (k+1) []).getD i 0
def InT(ms:List (List (List Int)))(k i j:Nat):Prop:=k < ms.length∧i < (ms.getD k []).length∧j < ((ms.getD k []).getD i []).length
structure LevC (x:GFiltered):Prop where
 ll:x.Levels.length=x.Complex.Dims.length
 lv:∀n,n < x.Levels.length→((x.Levels.getD n []).length:Int)=x.Complex.Dims.getD n 0∧∀q∈x.Levels.getD n [],0≤q∧q≤5
structure zb (x:GFiltered):Prop extends LevC x where
 vc:ValidC x.Complex
 le:∀k i j,InT x.Complex.Maps k i j→LevAt x k i j
theorem jd{α:Type}{l:List α}{i:Nat}(h:i < l.length)(d:α):l.getD i d∈l:=by
 rw[List.getD_eq_getElem?_getD,List.getElem?_eq_getElem h]; exact wC h
theorem levsD{x:GFiltered}{k:Nat}(h:k < x.Levels.length):x.Levels.getD k []=x.Levels[k]:=by simp[h]
theorem bounds{x:GFiltered}(hv:ValidC x.Complex)(hl:LevC x){k i j:Nat}(h:InT x.Complex.Maps k i j):k+1 < x.Levels.length∧j < (x.Levels.getD k []).length∧i < (x.Levels.getD (k+1) []).length:=by
 obtain⟨h1,h2,h3⟩:=h;have hml:=hv.ml;have hll:=hl.ll;have ht:=hv.tab k h1;have l1:=(hl.lv k (by omega)).1;have l2:=(hl.lv (k+1) (by omega)).1;have hi:(x.Complex.Maps.getD k []).getD i []∈x.Complex.Maps.getD k []:=jd h2 [];have r:=(ht.2 _ hi).1;have t1:=ht.1;refine⟨by omega,by omega,by omega⟩
theorem F77_eq{x:GFiltered}{k i:Nat}(h1:k < x.Levels.length)(h2:i < (x.Levels.getD k []).length):F77 x (k:Int) (i:Int)=some ((x.Levels.getD k []).getD i 0):=by
 unfold F77;rw[qn h1 [],ob,qn h2 0,ob]
theorem F76_eq{x:GComplex}(hs:x.Dims.length≤1048576){k:Nat}(h:k+1 < x.Dims.length)(hm:k < x.Maps.length):F76 x ((k+1:Nat):Int)=some (x.Maps.getD k []):=by
 unfold F76;have e:(((k+1:Nat):Int) - 1)=(k:Int):=by omega
 rw[qi (by omega) (by omega),ob,F54_eq,ob,if_pos (by simp; omega),qi (by omega) (by omega),ob,e,qn hm [],ob]
theorem F38_2_eq{x:GFiltered}(hsm:qX x){n:Nat}(hn:n < x.Levels.length):
  ∃t,qB (F38_2_S x (n:Int)) 0=some t∧((t= .inl ()∧∀q∈x.Levels.getD n [],0≤q∧q≤5)∨(t= .inr false∧¬∀q∈x.Levels.getD n [],0≤q∧q≤5)):=by
 have hr:=hsm.r _ (wC hn);rw[levsD hn];refine qA (fun j:Int=>(x.Levels[n].length - j).toNat) (fun j=>∃m:Nat,j=m∧m≤x.Levels[n].length∧∀k (hk:k < m) (h2:k < x.Levels[n].length),0≤x.Levels[n][k]∧x.Levels[n][k]≤5) _ ⟨0,rfl,by omega,fun k hk=> by omega⟩ ?_;rintro _ ⟨m,rfl,hm,hall⟩;unfold F38_2_S;rw[qg hn,ob];by_cases hlt:(m:Int) < x.Levels[n].length
 ·have hml:m < x.Levels[n].length:=by omega
  rw[if_pos hlt,qg hml,ob,F54_eq,ob];by_cases hx:0≤x.Levels[n][m]∧x.Levels[n][m]≤5
  ·rw[if_pos (by simpa using hx),qi (by omega) (by omega),ob]
   left;refine⟨_,rfl,⟨m+1,rfl,hml,fun k hk h2=>?_⟩,by omega⟩;by_cases e:k=m
   ·subst e; exact hx
   ·exact hall k (by omega) h2
  ·rw[if_neg (by simpa using hx)]
   right;exact⟨_,rfl,.inr ⟨rfl,fun ha=> hx (ha _ (wC hml))⟩⟩
 ·rw[if_neg hlt]
  right;refine⟨_,rfl,.inl ⟨rfl,fun q hq=>?_⟩⟩;obtain⟨k,hk,rfl⟩:=wY hq;exact hall k (by omega) hk
def LvAt(x:GFiltered)(n:Nat):Prop:=((x.Levels.getD n []).length:Int)=x.Complex.Dims.getD n 0∧∀q∈x.Levels.getD n [],0≤q∧q≤5
theorem F38_1_eq{x:GFiltered}(hsm:qX x)(hl:x.Levels.length=x.Complex.Dims.length):
  ∃t,forR 0 (x.Levels.length:Int) (F38_1_B x) (F38_1_D x) ()=some t∧((t= .inl ()∧∀n,n < x.Levels.length→LvAt x n)∨(t= .inr false∧¬∀n,n < x.Levels.length→LvAt x n)):=by
 have hm:=hsm.l;have hlen:x.Levels.length < 4611686018427387904:=by omega
 refine qo x.Levels.length rfl hlen (fun i _=>∀k,k < i→LvAt x k) _ (fun k hk=> by omega) ?_ ?_
 ·rintro i _ hi ht
  unfold F38_1_B;rw[qn hi [],ob,qn (show i < x.Complex.Dims.length by omega) 0,ob];by_cases hc:((x.Levels.getD i []).length:Int)=x.Complex.Dims.getD i 0
  ·rw[if_pos hc]
   obtain⟨t,g1,g2⟩:=F38_2_eq hsm hi;rw[g1,ob];rcases g2 with⟨rfl,g2⟩|⟨rfl,g2⟩
   ·left
    refine⟨(),rfl,fun k hk=>?_⟩;by_cases e:k=i
    ·subst e; exact⟨hc,g2⟩
    ·exact ht k (by omega)
   ·right
    exact⟨_,rfl,.inr ⟨rfl,fun ha=> g2 (ha i hi).2⟩⟩
  ·rw[if_neg hc]
   right;exact⟨_,rfl,.inr ⟨rfl,fun ha=> hc (ha i hi).1⟩⟩
 ·rintro _ ht
  exact⟨.inl (),rfl,.inl ⟨rfl,ht⟩⟩
theorem F38_5_eq{x:GFiltered}(hsm:qX x)(hv:ValidC x.Complex)(hl:LevC x){k i:Nat}(hk:k < x.Complex.Maps.length)(hi:i < (x.Complex.Maps.getD k []).length):
  ∃t,qB (F38_5_S x ((k+1:Nat):Int) (x.Complex.Maps.getD k []) (i:Int)) 0=some t∧((t= .inl ()∧∀j,j < ((x.Complex.Maps.getD k []).getD i []).length→LevAt x k i j)∨(t= .inr false∧¬∀j,j < ((x.Complex.Maps.getD k []).getD i []).length→LevAt x k i j)):=by
 have hdl:=hv.dl;have hml:=hv.ml;have hrow:(x.Complex.Maps.getD k []).getD i []∈x.Complex.Maps.getD k []:=jd hi [];have hr:((x.Complex.Maps.getD k []).getD i []).length≤1048576:=(hsm.c.r _ (by rw[mapsD hk]; exact wC hk)).2 _ hrow;refine qA (fun j:Int=>(((x.Complex.Maps.getD k []).getD i []).length - j).toNat) (fun j=>∃m:Nat,j=m∧m≤((x.Complex.Maps.getD k []).getD i []).length∧∀j,j < m→LevAt x k i j) _ ⟨0,rfl,by omega,fun k hk=> by omega⟩ ?_;rintro _ ⟨m,rfl,hm,hall⟩;unfold F38_5_S;rw[qn hi [],ob];by_cases hlt:(m:Int) < ((x.Complex.Maps.getD k []).getD i []).length
 ·have hm2:m < ((x.Complex.Maps.getD k []).getD i []).length:=by omega
  obtain⟨b1,b2,b3⟩:=bounds hv hl (show InT x.Complex.Maps k i m from ⟨hk,hi,hm2⟩);rw[if_pos hlt,qn hm2 0,ob];by_cases h0:((x.Complex.Maps.getD k []).getD i []).getD m 0=0
  ·rw[if_pos h0,qi (by omega) (by omega),ob]
   left;refine⟨_,rfl,⟨m+1,rfl,hm2,fun j hj=>?_⟩,by omega⟩;by_cases e:j=m
   ·subst e; exact .inl h0
   ·exact hall j (by omega)
  ·have e1:(((k+1:Nat):Int) - 1)=(k:Int):=by omega
   rw[if_neg h0,qi (by omega) (by omega),ob,e1,F77_eq (by omega) b2,ob,F77_eq b1 b3,ob];by_cases hlv:(x.Levels.getD (k+1) []).getD i 0 < (x.Levels.getD k []).getD m 0
   ·rw[if_pos hlv]
    right;refine⟨_,rfl,.inr ⟨rfl,fun ha=>?_⟩⟩;rcases ha m hm2 with h|h
    ·exact h0 h
    ·omega
   ·rw[if_neg hlv,qi (by omega) (by omega),ob]
    left;refine⟨_,rfl,⟨m+1,rfl,hm2,fun j hj=>?_⟩,by omega⟩;by_cases e:j=m
    ·subst e; exact .inr (by omega)
    ·exact hall j (by omega)
 ·rw[if_neg hlt]
  right;exact⟨_,rfl,.inl ⟨rfl,fun j hj=> hall j (by omega)⟩⟩
def LeAt(x:GFiltered)(k:Nat):Prop:=∀i j,InT x.Complex.Maps k i j→LevAt x k i j
theorem F38_4_eq{x:GFiltered}(hsm:qX x)(hv:ValidC x.Complex)(hl:LevC x){k:Nat}(hk:k < x.Complex.Maps.length):
  ∃t,forR 0 ((x.Complex.Maps.getD k []).length:Int) (F38_4_B x ((k+1:Nat):Int) (x.Complex.Maps.getD k [])) (F38_4_D x ((k+1:Nat):Int) (x.Complex.Maps.getD k [])) ()=some t∧((t= .inl ()∧LeAt x k)∨(t= .inr false∧¬LeAt x k)):=by
 have hm:(x.Complex.Maps.getD k []).length≤1048576:=(hsm.c.r _ (by rw[mapsD hk]; exact wC hk)).1;have hlen:(x.Complex.Maps.getD k []).length < 4611686018427387904:=by omega
 refine qo (x.Complex.Maps.getD k []).length rfl hlen (fun n _=>∀i,i < n→∀j,InT x.Complex.Maps k i j→LevAt x k i j) _ (fun i hi=> by omega) ?_ ?_
 ·rintro i _ hi ht
  unfold F38_4_B;obtain⟨t,g1,g2⟩:=F38_5_eq hsm hv hl hk hi;rw[g1,ob];rcases g2 with⟨rfl,g2⟩|⟨rfl,g2⟩
  ·left
   refine⟨(),rfl,fun j hj m hin=>?_⟩;by_cases e:j=i
   ·subst e; exact g2 m hin.2.2
   ·exact ht j (by omega) m hin
  ·right
   exact⟨_,rfl,.inr ⟨rfl,fun ha=> g2 fun j hj=> ha i j ⟨hk,hi,hj⟩⟩⟩
 ·rintro _ ht
  exact⟨.inl (),rfl,.inl ⟨rfl,fun i j hin=> ht i hin.2.1 j hin⟩⟩
theorem F38_3_eq{x:GFiltered}(hsm:qX x)(hv:ValidC x.Complex)(hl:LevC x):
  ∃t,forR 1 (x.Levels.length:Int) (F38_3_B x) (F38_3_D x) ()=some t∧((t= .inl ()∧∀k,k < x.Complex.Maps.length→LeAt x k)∨(t= .inr false∧¬∀k,k < x.Complex.Maps.length→LeAt x k)):=by
 have hm:=hsm.l;have hll:=hl.ll;have hml:=hv.ml;have hdl:=hv.dl;have hlen:x.Levels.length < 4611686018427387904:=by omega
 refine forR_from 1 x.Levels.length rfl rfl (by omega) hlen (fun n _=> 1≤n∧∀k,k < n - 1→LeAt x k) _ ⟨wD _,fun k hk=> by omega⟩ ?_ ?_
 ·rintro n _ hn ⟨h1,ht⟩
  unfold F38_3_B;obtain⟨k,rfl⟩:∃k,n=k+1:=⟨n - 1,by omega⟩;have hk:k < x.Complex.Maps.length:=by omega
  rw[F76_eq hsm.c.d (by omega) hk,ob];obtain⟨t,g1,g2⟩:=F38_4_eq hsm hv hl hk;rw[g1,ob];rcases g2 with⟨rfl,g2⟩|⟨rfl,g2⟩
  ·left
   refine⟨(),rfl,by omega,fun m hm'=>?_⟩;by_cases e:m=k
   ·subst e; exact g2
   ·exact ht m (by omega)
  ·right
   exact⟨_,rfl,.inr ⟨rfl,fun ha=> g2 (ha k hk)⟩⟩
 ·rintro _ ⟨h1,ht⟩
  exact⟨.inl (),rfl,.inl ⟨rfl,fun k hk=> ht k (by omega)⟩⟩
theorem F38_tells{x:GFiltered}(hsm:qX x):jB (F38 x) (zb x):=by
 unfold F38;rcases(F39_tells hsm.c).case with⟨h1,hv⟩|⟨h1,hv⟩
 case inr=> rw[h1,ob,if_neg wE]; exact .of_false rfl fun h=> hv h.vc
 rw[h1,ob,if_pos rfl];by_cases c1:(x.Levels.length:Int)=x.Complex.Dims.length
 case neg=> rw[if_neg c1]; exact .of_false rfl fun h=> by have:=h.ll; omega
 rw[if_pos c1];obtain⟨t,g1,g2⟩:=F38_1_eq hsm (by omega);rw[g1,ob];rcases g2 with⟨rfl,g2⟩|⟨rfl,g2⟩
 case inr=> exact .of_false rfl fun h=> g2 h.lv
 have hl:LevC x:=⟨by omega,g2⟩;obtain⟨t,k1,k2⟩:=F38_3_eq hsm hv hl;simp only;rw[k1,ob];rcases k2 with⟨rfl,k2⟩|⟨rfl,k2⟩
 ·exact .of_true rfl ⟨hl,hv,fun k i j h=> k2 k h.1 i j h⟩
 ·exact .of_false rfl fun h=> k2 fun k hk i j hin=> h.le k i j hin
theorem F41_1_eq{x:GFiltered}(hsm:qX x)(hl:x.Levels.length=x.Complex.Dims.length):
  ∃t,forR 0 (x.Levels.length:Int) (F41_1_B x) (F41_1_D x) ()=some t∧((t= .inl ()∧∀n,n < x.Levels.length→LvAt x n)∨(t= .inr false∧¬∀n,n < x.Levels.length→LvAt x n)):=by
 have hm:=hsm.l;have hlen:x.Levels.length < 4611686018427387904:=by omega
 refine qo x.Levels.length rfl hlen (fun i _=>∀k,k < i→LvAt x k) _ (fun k hk=> by omega) ?_ ?_
 ·rintro i _ hi ht
  unfold F41_1_B;rw[qn hi [],ob,qn (show i < x.Complex.Dims.length by omega) 0,ob];by_cases hc:((x.Levels.getD i []).length:Int)=x.Complex.Dims.getD i 0
  ·rw[if_pos hc]
   have hr:(x.Levels.getD i []).length≤1048576:=hsm.r _ (by rw[levsD hi]; exact wC hi);have h83:F82 (x.Levels.getD i []) (fun y=> F83 y)=some ((x.Levels.getD i []).any fun q=> !decide (0≤q∧q≤5)):=F82_eq _ (by omega) (fun q _=> by unfold F83; rw[F56_eq,ob]);have hany:((x.Levels.getD i []).any fun q=> !decide (0≤q∧q≤5))=true↔¬∀q∈x.Levels.getD i [],0≤q∧q≤5:=by
    simp only[vX,yI,decide_eq_false_iff_not];constructor
    ·rintro⟨d,h1,h2⟩ ha; exact h2 (ha d h1)
    ·intro hn
     exact vN fun hc=> hn fun d hd=> vN fun h=> hc ⟨d,hd,h⟩
   rw[h83,ob];by_cases c4:((x.Levels.getD i []).any fun q=> !decide (0≤q∧q≤5))=true
   ·rw[if_pos c4]
    right;exact⟨_,rfl,.inr ⟨rfl,fun ha=> hany.1 c4 (ha i hi).2⟩⟩
   ·rw[if_neg c4]
    left;refine⟨(),rfl,fun k hk=>?_⟩;by_cases e:k=i
    ·subst e; exact⟨hc,vN fun h=> c4 (hany.2 h)⟩
    ·exact ht k (by omega)
  ·rw[if_neg hc]
   right;exact⟨_,rfl,.inr ⟨rfl,fun ha=> hc (ha i hi).1⟩⟩
 ·rintro _ ht
  exact⟨.inl (),rfl,.inl ⟨rfl,ht⟩⟩
theorem F85_and{ms:List (List (List Int))}{f:Int→Int→Int→Int→Bool→Option Bool}(P:Nat→Nat→Nat→Prop)(h1:ms.length≤1048576)(h2:∀m∈ms,m.length≤1048576∧∀r∈m,r.length≤1048576)
  (hf:∀k i j b,InT ms k i j→∃b',f ((k:Int)+1) i j (numAt ms k i j) b=some b'∧(b'=true↔b=true∧P k i j)):jB (F85 ms f true) (∀k i j,InT ms k i j→P k i j):=by
 unfold F85;have hl1:ms.length < 4611686018427387904:=by omega
 refine qo (τ:=Bool) (σ:=Bool) ms.length rfl hl1 (fun n b=>(b=true↔∀k i j,k < n→InT ms k i j→P k i j)) _ (by simp) ?_ ?_
 ·intro k b hk hI
  left;rw[qn hk [],ob];have hmem:ms.getD k []∈ms:=jd hk [];have hm:=h2 _ hmem;have hl2:(ms.getD k []).length < 4611686018427387904:=by have:=hm.1; omega
  suffices hs:∃t,forR 0 ((ms.getD k []).length:Int) _ _ b=some t∧(t=true↔∀k' i j,k' < k+1→InT ms k' i j→P k' i j) by
   obtain⟨t,g1,g2⟩:=hs;rw[g1,ob];exact⟨t,rfl,g2⟩
  refine qo (τ:=Bool) (σ:=Bool) (ms.getD k []).length rfl hl2 (fun n b=>(b=true↔(∀k' i j,k' < k→InT ms k' i j→P k' i j)∧∀i j,i < n→InT ms k i j→P k i j)) _ (by rw[hI]; simp) ?_ ?_
  ·intro i b hi hI2
   left;rw[qn hi [],ob];have hmem2:(ms.getD k []).getD i []∈ms.getD k []:=jd hi [];have hl3:((ms.getD k []).getD i []).length < 4611686018427387904:=by have:=hm.2 _ hmem2; omega
   suffices hs:∃t,forR 0 (((ms.getD k []).getD i []).length:Int) _ _ b=some t∧(t=true↔(∀k' i j,k' < k→InT ms k' i j→P k' i j)∧∀i' j,i' < i+1→InT ms k i' j→P k i' j) by
    obtain⟨t,g1,g2⟩:=hs;rw[g1,ob];exact⟨t,rfl,g2⟩
   refine qo (τ:=Bool) (σ:=Bool) ((ms.getD k []).getD i []).length rfl hl3 (fun n b=>(b=true↔((∀k' i j,k' < k→InT ms k' i j→P k' i j)∧∀i' j,i' < i→InT ms k i' j→P k i' j)∧∀j,j < n→InT ms k i j→P k i j)) _ (by rw[hI2]; simp) ?_ ?_
   ·intro j b hj hI3
    left;have hin:InT ms k i j:=⟨hk,hi,hj⟩;rw[qn hj 0,ob,qi (by omega) (by omega),ob];obtain⟨b',g1,g2⟩:=hf k i j b hin;have g1':f ((k:Int)+1) i j (((ms.getD k []).getD i []).getD j 0) b=some b':=g1;rw[g1',ob];refine⟨b',rfl,?_⟩;rw[g2,hI3];constructor
    ·rintro⟨⟨q1,q2⟩,q3⟩
     refine⟨q1,fun j' hj' hin'=>?_⟩;by_cases e:j'=j
     ·subst e; exact q3
     ·exact q2 j' (by omega) hin'
    ·rintro⟨q1,q2⟩
     exact⟨⟨q1,fun j' hj' hin'=> q2 j' (by omega) hin'⟩,q2 j (by omega) hin⟩
   ·intro b hI3
    refine⟨b,rfl,?_⟩;rw[hI3];constructor
    ·rintro⟨⟨q1,q2⟩,q3⟩
     refine⟨q1,fun i' j hi' hin'=>?_⟩;by_cases e:i'=i
     ·subst e; exact q3 j hin'.2.2 hin'
     ·exact q2 i' j (by omega) hin'
    ·rintro⟨q1,q2⟩
     exact⟨⟨q1,fun i' j hi' hin'=> q2 i' j (by omega) hin'⟩,fun j _ hin'=> q2 i j (by omega) hin'⟩
  ·intro b hI2
   refine⟨b,rfl,?_⟩;rw[hI2];constructor
   ·rintro⟨q1,q2⟩ k' i j hk' hin'
    by_cases e:k'=k
    ·subst e; exact q2 i j hin'.2.1 hin'
    ·exact q1 k' i j (by omega) hin'
   ·intro q
    exact⟨fun k' i j hk' hin'=> q k' i j (by omega) hin',fun i j _ hin'=> q k i j (by omega) hin'⟩
 ·intro b hI
  refine⟨b,rfl,?_⟩;rw[hI];constructor
  ·intro q k i j hin; exact q k i j hin.1 hin
  ·intro q k i j _ hin; exact q k i j hin
theorem F41_tells{x:GFiltered}(hsm:qX x):jB (F41 x) (zb x):=by
 unfold F41;rcases(F42_tells hsm.c).case with⟨h1,hv⟩|⟨h1,hv⟩
 case inr=> rw[h1,ob,if_neg wE]; exact .of_false rfl fun h=> hv h.vc
 rw[h1,ob,if_pos rfl];by_cases c1:(x.Levels.length:Int)=x.Complex.Dims.length
 case neg=> rw[if_neg c1]; exact .of_false rfl fun h=> by have:=h.ll; omega
 rw[if_pos c1];obtain⟨t,g1,g2⟩:=F41_1_eq hsm (by omega);rw[g1,ob];rcases g2 with⟨rfl,g2⟩|⟨rfl,g2⟩
 case inr=> exact .of_false rfl fun h=> g2 h.lv
 have hl:LevC x:=⟨by omega,g2⟩;have hml:=hv.ml;have hdl:=hv.dl;have hT:=F85_and (ms:=x.Complex.Maps) (f:=fun n r p v s=> F84 n r p v s x) (LevAt x) hsm.c.m hsm.c.r (by
  intro k i j b hin;obtain⟨b1,b2,b3⟩:=bounds hv hl hin;have hk:=hin.1;unfold F84;cases b with
  |false=> rw[if_neg wE]; exact⟨false,rfl,by simp⟩
  |true=>
   rw[if_pos rfl];by_cases h0:numAt x.Complex.Maps k i j=0
   ·rw[if_pos h0]; exact⟨true,rfl,by simp[LevAt,h0]⟩
   ·have e1:((k:Int)+1 - 1)=(k:Int):=by omega
    have e2:((k:Int)+1)=((k+1:Nat):Int):=by omega
    rw[if_neg h0,qi (by omega) (by omega),ob,e1,qn (show k < x.Levels.length by omega) [],ob,qn b2 0,ob,e2,qn b1 [],ob,qn b3 0,ob];exact⟨_,rfl,by simp only[decide_eq_true_eq,LevAt,h0,false_or,true_and]⟩)
 simp only;rcases hT.case with⟨k1,k2⟩|⟨k1,k2⟩
 ·rw[k1,ob]; exact .of_true rfl ⟨hl,hv,k2⟩
 ·rw[k1,ob]; exact .of_false rfl fun h=> k2 h.le
abbrev Long0(n:Int):Prop:= -9223372036854775808≤n∧n≤9223372036854775807
abbrev LongL{α:Type}(L:α→Prop)(l:List α):Prop:=l.length≤9223372036854775807∧∀y∈l,L y
structure LongC (x:GComplex):Prop where
 p:Long0 x.Prime
 d:LongL Long0 x.Dims
 m:LongL (LongL (LongL Long0)) x.Maps
structure LongF (x:GFiltered):Prop where
 c:LongC x.Complex
 l:LongL (LongL Long0) x.Levels
theorem F43_eq{a:List Int}(ha:a.length≤9223372036854775807){s:Int}(h0:0≤s)(h1:s≤1048576):∃z,F43 a s=some z∧(z < 0∨(0≤z∧z≤1048576∧a.length≤1048576)):=by
 unfold F43;rw[qi (by omega) (by omega),ob];by_cases h:s - (a.length:Int) < 0
 ·rw[if_pos h]; exact⟨_,rfl,.inl (by decide)⟩
 ·rw[if_neg h]; exact⟨_,rfl,.inr ⟨by omega,by omega,by omega⟩⟩
theorem sz_loop{α:Type}{l:List α}(S:α→Prop){B:Int→Int→Option (Int⊕(Int⊕Int))}{D:Int→Int→Option (Int⊕Int)}(hl:l.length≤1048576)
  (hB:∀ (i:Nat) (hi:i < l.length) (v:Int),0≤v→v≤1048576→(∃z,B i v=some (.inl z)∧0≤z∧z≤1048576∧S l[i])∨B i v=some (.inr (.inr (-1)))) (hD:∀v,D (l.length:Int) v=some (.inl v)∨∀i v,D i v=some (.inl v)) (hD':∀i v,D i v=some (.inl v))
  {s:Int} (h0:0≤s) (h1:s≤1048576):∃t,forR 0 (l.length:Int) B D s=some t∧((∃z,t= .inl z∧0≤z∧z≤1048576∧∀y∈l,S y)∨t= .inr (-1)):=by
 have hlen:l.length < 4611686018427387904:=by omega
 refine qo l.length rfl hlen (fun i v=> 0≤v∧v≤1048576∧∀k (h:k < l.length),k < i→S l[k]) _ ⟨h0,h1,fun k _ hk=> by omega⟩ ?_ ?_
 ·rintro i v hi ⟨p0,p1,p2⟩
  rcases hB i hi v p0 p1 with⟨z,q1,q2,q3,q4⟩|q
  ·left
   refine⟨z,q1,q2,q3,fun k h hk=>?_⟩;by_cases e:k=i
   ·subst e; exact q4
   ·exact p2 k h (by omega)
  ·right
   exact⟨_,q,.inr rfl⟩
 ·rintro v ⟨p0,p1,p2⟩
  refine⟨_,hD' _ _,.inl ⟨v,rfl,p0,p1,fun y hy=>?_⟩⟩;obtain⟨k,hk,rfl⟩:=wY hy;exact p2 k hk hk
theorem F44_eq{a:List (List Int)}(ha:LongL (LongL Long0) a){s:Int}(h0:0≤s)(h1:s≤1048576):∃z,F44 a s=some z∧(z < 0∨(0≤z∧z≤1048576∧a.length≤1048576∧∀r∈a,r.length≤1048576)):=by
 have hal:=ha.1;unfold F44;rw[qi (by omega) (by omega),ob];by_cases h:s - (a.length:Int) < 0
 ·rw[if_pos h]; exact⟨_,rfl,.inl (by decide)⟩
 ·rw[if_neg h]
  obtain⟨t,g1,g2⟩:=sz_loop (l:=a) (B:=F44_1_B a) (D:=F44_1_D a) (fun r=> r.length≤1048576) (by omega) (fun i hi v v0 v1=> by
   unfold F44_1_B;obtain⟨z,k1,k2⟩:=F43_eq (ha.2 _ (wC hi)).1 v0 v1;rw[qg hi,ob,k1,ob];rcases k2 with k2|⟨k2,k3,k4⟩
   ·rw[if_pos k2]; exact .inr rfl
   ·rw[if_neg (by omega)]; exact .inl ⟨z,rfl,k2,k3,k4⟩) (fun v=> .inl rfl) (fun i v=> rfl) (show 0≤s - (a.length:Int) by omega) (by omega)
  rw[g1,ob];rcases g2 with⟨z,rfl,q1,q2,q3⟩|rfl
  ·exact⟨z,rfl,.inr ⟨q1,q2,by omega,q3⟩⟩
  ·exact⟨_,rfl,.inl (by decide)⟩
theorem F11_eq{a:List (List (List Int))}(ha:LongL (LongL (LongL Long0)) a){s:Int}(h0:0≤s)(h1:s≤1048576):∃z,F11 a s=some z∧(z < 0∨(0≤z∧z≤1048576∧a.length≤1048576∧∀m∈a,m.length≤1048576∧∀r∈m,r.length≤1048576)):=by
 have hal:=ha.1;unfold F11;rw[qi (by omega) (by omega),ob];by_cases h:s - (a.length:Int) < 0
 ·rw[if_pos h]; exact⟨_,rfl,.inl (by decide)⟩
 ·rw[if_neg h]
  obtain⟨t,g1,g2⟩:=sz_loop (l:=a) (B:=F11_1_B a) (D:=F11_1_D a) (fun m=> m.length≤1048576∧∀r∈m,r.length≤1048576) (by omega) (fun i hi v v0 v1=> by
   unfold F11_1_B;obtain⟨z,k1,k2⟩:=F44_eq (ha.2 _ (wC hi)) v0 v1;rw[qg hi,ob,k1,ob];rcases k2 with k2|⟨k2,k3,k4⟩
   ·rw[if_pos k2]; exact .inr rfl
   ·rw[if_neg (by omega)]; exact .inl ⟨z,rfl,k2,k3,k4⟩) (fun v=> .inl rfl) (fun i v=> rfl) (show 0≤s - (a.length:Int) by omega) (by omega)
  rw[g1,ob];rcases g2 with⟨z,rfl,q1,q2,q3⟩|rfl
  ·exact⟨z,rfl,.inr ⟨q1,q2,by omega,q3⟩⟩
  ·exact⟨_,rfl,.inl (by decide)⟩
theorem F10_eq{x:GComplex}(hx:LongC x){s:Int}(h0:0≤s)(h1:s≤1048576):∃z,F10 x s=some z∧(z < 0∨(0≤z∧z≤1048576∧jp x)):=by
 unfold F10;obtain⟨z,k1,k2⟩:=F43_eq hx.d.1 h0 h1;rw[k1,ob];rcases k2 with k2|⟨k2,k3,k4⟩
 ·rw[if_pos k2]; exact⟨_,rfl,.inl (by decide)⟩
 rw[if_neg (by omega)];obtain⟨y,l1,l2⟩:=F11_eq hx.m k2 k3;rw[l1,ob];rcases l2 with l2|⟨l2,l3,l4,l5⟩
 ·rw[if_pos l2]; exact⟨_,rfl,.inl (by decide)⟩
 rw[if_neg (by omega)];exact⟨y,rfl,.inr ⟨l2,l3,⟨k4,l4,l5⟩⟩⟩
theorem F37_eq{x:GFiltered}(hx:LongF x){s:Int}(h0:0≤s)(h1:s≤1048576):∃z,F37 x s=some z∧(z < 0∨(0≤z∧z≤1048576∧qX x)):=by
 unfold F37;obtain⟨z,k1,k2⟩:=F10_eq hx.c h0 h1;rw[k1,ob];rcases k2 with k2|⟨k2,k3,k4⟩
 ·rw[if_pos k2]; exact⟨_,rfl,.inl (by decide)⟩
 rw[if_neg (by omega)];obtain⟨y,l1,l2⟩:=F44_eq hx.l k2 k3;rw[l1,ob];rcases l2 with l2|⟨l2,l3,l4,l5⟩
 ·rw[if_pos l2]; exact⟨_,rfl,.inl (by decide)⟩
 rw[if_neg (by omega)];exact⟨y,rfl,.inr ⟨l2,l3,⟨k4,l4,l5⟩⟩⟩
theorem to_loop{α:Type}{l:List α}{B:Int→List α→Option (List α⊕List α)}{D:Int→List α→Option (List α)}(hl:l.length≤1048576)
  (hB:∀ (i:Nat) (hi:i < l.length) (s:List α),s.length=l.length→B i s=some (.inl (s.set i l[i]))) (hD:∀i s,D i s=some s) {s:List α} (hs:s.length=l.length):forR 0 (l.length:Int) B D s=some l:=by
 have hlen:l.length < 4611686018427387904:=by omega
 obtain⟨t,h1,h2⟩:=qo (B:=B) (D:=D) l.length rfl hlen (fun i s=> s.length=l.length∧∀k,k < i→s[k]? =l[k]?) (fun t=> t=l) (s:=s) ⟨hs,fun k hk=> by omega⟩ (by
  rintro i s hi ⟨p1,p2⟩;left;refine⟨_,hB i hi s p1,by rw[vA]; exact p1,fun k hk=>?_⟩;rw[List.getElem?_set];by_cases e:i=k
  ·subst e; rw[if_pos rfl,if_pos (by omega)]; simp[hi]
  ·rw[if_neg e]; exact p2 k (by omega)) (by
  rintro s ⟨p1,p2⟩;refine⟨s,hD _ _,?_⟩;apply List.ext_getElem?;intro k;by_cases hk:k < l.length
  ·exact p2 k hk
  ·rw[List.getElem?_eq_none (by omega),List.getElem?_eq_none (by omega)])
 rw[h1,h2]
theorem F47_eq{l:List Int}(h:l.length≤1048576):F47 l=some l:=by
 unfold F47;rw[mkL_ok l.length rfl (by omega) (by omega),ob,to_loop (l:=l) (B:=F47_1_B l) (D:=F47_1_D l) h (fun i hi s hs=> by
  unfold F47_1_B;rw[qg hi,ob,qg (show i < s.length by omega),ob,qU (by omega),ob]) (fun i s=> rfl) (yN ..),ob]
theorem F48_eq{l:List (List Int)}(h:l.length≤1048576)(h2:∀r∈l,r.length≤1048576):F48 l=some l:=by
 unfold F48;rw[mkL_ok l.length rfl (by omega) (by omega),ob,to_loop (l:=l) (B:=F48_1_B l) (D:=F48_1_D l) h (fun i hi s hs=> by
  unfold F48_1_B;rw[qg hi,ob,F47_eq (h2 _ (wC hi)),ob,qg (show i < s.length by omega),ob,qU (by omega),ob]) (fun i s=> rfl) (yN ..),ob]
theorem F13_eq{l:List (List (List Int))}(h:l.length≤1048576)(h2:∀m∈l,m.length≤1048576∧∀r∈m,r.length≤1048576):F13 l=some l:=by
 unfold F13;rw[mkL_ok l.length rfl (by omega) (by omega),ob,to_loop (l:=l) (B:=F13_1_B l) (D:=F13_1_D l) h (fun i hi s hs=> by
  unfold F13_1_B;rw[qg hi,ob,F48_eq (h2 _ (wC hi)).1 (h2 _ (wC hi)).2,ob,qg (show i < s.length by omega),ob,qU (by omega),ob]) (fun i s=> rfl) (yN ..),ob]
theorem F12_eq{x:GComplex}(h:jp x):F12 x=some x:=by
 unfold F12;rw[F47_eq h.d,ob,F13_eq h.m h.r,ob]
theorem F40_eq{x:GFiltered}(h:qX x):F40 x=some x:=by
 unfold F40;rw[F12_eq h.c,ob,F48_eq h.l h.r,ob]
theorem eq_loop{n:Nat}{B:Int→Unit→Option (Unit⊕(Unit⊕Bool))}{D:Int→Unit→Option (Unit⊕Bool)}(hn:n≤1048576)(hB:∀ (i:Nat) (s:Unit),i < n→B i s=some (.inl ()))(hD:∀i s,D i s=some (.inl ())):forR 0 (n:Int) B D ()=some (.inl ()):=by
 have hlen:n < 4611686018427387904:=by omega
 obtain⟨t,h1,h2⟩:=qo (B:=B) (D:=D) n rfl hlen (fun _ _=> True) (fun t=> t= .inl ()) (s:=()) trivial (fun i s hi _=> .inl ⟨_,hB i s hi,trivial⟩) (fun s _=>⟨_,hD _ _,rfl⟩);rw[h1,h2]
theorem F30_same{a:List Int}(h:a.length≤1048576):F30 a a=some true:=by
 unfold F30;rw[if_pos rfl,eq_loop (B:=F30_1_B a a) (D:=F30_1_D a a) h (fun i s hi=> by unfold F30_1_B; rw[qg hi,ob,ob,if_pos rfl]) (fun i s=> rfl),ob]
theorem F51_same{a:List (List Int)}(h:a.length≤1048576)(h2:∀r∈a,r.length≤1048576):F51 a a=some true:=by
 unfold F51;rw[if_pos rfl,eq_loop (B:=F51_1_B a a) (D:=F51_1_D a a) h (fun i s hi=> by unfold F51_1_B; rw[qg hi,ob,ob,F30_same (h2 _ (wC hi)),ob,if_pos rfl]) (fun i s=> rfl),ob]
theorem F17_same{a:List (List (List Int))}(h:a.length≤1048576)(h2:∀m∈a,m.length≤1048576∧∀r∈m,r.length≤1048576):F17 a a=some true:=by
 unfold F17;rw[if_pos rfl,eq_loop (B:=F17_1_B a a) (D:=F17_1_D a a) h (fun i s hi=> by unfold F17_1_B; rw[qg hi,ob,ob,F51_same (h2 _ (wC hi)).1 (h2 _ (wC hi)).2,ob,if_pos rfl]) (fun i s=> rfl),ob]
theorem F16_same{x:GComplex}(h:jp x):F16 x x=some true:=by
 unfold F16;rw[if_pos rfl,F30_same h.d,ob,if_pos rfl,F17_same h.m h.r,ob,if_pos rfl]
theorem F25_same{x:GFiltered}(h:qX x):F25 x x=some true:=by
 unfold F25;rw[F16_same h.c,ob,if_pos rfl,F51_same h.l h.r,ob,if_pos rfl]
def TabM(x:GComplex)(ms:List (List (List Int)))(k:Nat):Prop:=TableOK x.Prime (x.Dims.getD (k+1) 0) (x.Dims.getD k 0) (ms.getD k [])
structure MapsOK (x:GComplex) (ms:List (List (List Int))):Prop where
 v:ValidC x
 l:ms.length=x.Maps.length
 t:∀k,k < ms.length→TabM x ms k
abbrev T3s:=List (List (List Int))
structure Shp (s u:T3s):Prop where
 l:s.length=u.length
 t:∀k,k < u.length→(s.getD k []).length=(u.getD k []).length
 r:∀k,k < u.length→∀i,i < (u.getD k []).length→((s.getD k []).getD i []).length=((u.getD k []).getD i []).length
theorem Shp.refl(s:T3s):Shp s s:=⟨rfl,fun _ _=> rfl,fun _ _ _ _=> rfl⟩
theorem Shp.trans{a b c:T3s}(h:Shp a b)(k:Shp b c):Shp a c:=
 ⟨h.l.trans k.l,fun n hn=>(h.t n (by rw[k.l]; exact hn)).trans (k.t n hn),fun n hn i hi=>(h.r n (by rw[k.l]; exact hn) i (by rw[k.t n hn]; exact hi)).trans (k.r n hn i hi)⟩
theorem Shp.symm{a b:T3s}(h:Shp a b):Shp b a:=
 ⟨h.l.symm,fun n hn=>(h.t n (by rw[←h.l]; exact hn)).symm,fun n hn i hi=>(h.r n (by rw[←h.l]; exact hn) i (by rw[←h.t n (by rw[←h.l]; exact hn)]; exact hi)).symm⟩
theorem getD_ext{α:Type}{l l':List α}(d:α)(h:l.length=l'.length)(hv:∀k,k < l'.length→l.getD k d=l'.getD k d):l=l':=by
 apply List.ext_getElem h;intro k h1 h2;have:=hv k h2;simpa[h1,h2]using this
theorem Shp.eq{s t:T3s}(h:Shp s t)(hv:∀k i j,InT t k i j→numAt s k i j=numAt t k i j):s=t:=by
 refine getD_ext [] h.l fun k hk=> getD_ext [] (h.t k hk) fun i hi=> getD_ext 0 (h.r k hk i hi) fun j hj=> hv k i j ⟨hk,hi,hj⟩
def q1(p a b:Int):Int:=((a+b).tmod p+p).tmod p
def Rng(p:Int)(s:T3s):Prop:=∀k i j,InT s k i j→0≤numAt s k i j∧numAt s k i j < p
def AT(q:Int→Int→Int)(s0 ms:T3s)(D:Nat→Nat→Nat→Prop)(s:T3s):Prop:=
 Shp s s0∧∀k i j,InT s0 k i j→(D k i j→numAt s k i j=q (numAt s0 k i j) (numAt ms k i j))∧(¬D k i j→numAt s k i j=numAt s0 k i j)
theorem AT.zero(q:Int→Int→Int)(s0 ms:T3s):AT q s0 ms (fun _ _ _=> False) s0:=⟨.refl _,fun k i j _=>⟨fun x=> x.elim,fun _=> rfl⟩⟩
theorem cpy_loop{α:Type}{l:List α}{B:Int→List α→Option (List α⊕List α)}{D:Int→List α→Option (List α)}(hl:l.length≤1048576)
  (hB:∀ (i:Nat) (hi:i < l.length) (s:List α),s.length=i→B i s=some (.inl (s++[l[i]]))) (hD:∀i s,D i s=some s):forR 0 (l.length:Int) B D []=some l:=by
 have hlen:l.length < 4611686018427387904:=by omega
 obtain⟨t,h1,h2⟩:=qo (B:=B) (D:=D) l.length rfl hlen (fun i s=> s=l.take i) (fun t=> t=l) (s:=[]) (by simp) (by
  rintro i s hi rfl;left;refine⟨_,hB i hi _ (by simp; omega),?_⟩;rw[vK]) (by
  rintro s rfl;exact⟨_,hD _ _,by simp⟩)
 rw[h1,h2]
theorem app_nil{b:Nat}{α:Type}{l:List α}(h:l.length*b≤1099511627776)(h2:l.length≤1099511627776):app b [] l=some l:=by
 rw[qW (by simpa using h) (by simpa using h2)]; rfl
theorem F94_eq{l:List Int}(h:l.length≤1048576):F94 l=some l:=by
 unfold F94; rw[app_nil (by omega) (by omega),ob]
theorem F96_eq{l:List Int}(h:l.length≤1048576):F96 l=some l:=by
 unfold F96; rw[app_nil (by omega) (by omega)]
theorem TabM.len{x:GComplex}{ms:T3s}{k:Nat}(h:TabM x ms k):((ms.getD k []).length:Int)=x.Dims.getD (k+1) 0:=h.1
theorem MapsOK.self{x:GComplex}(h:ValidC x):MapsOK x x.Maps:=⟨h,rfl,fun k hk=> h.tab k hk⟩
theorem MapsOK.rng{x:GComplex}{ms:T3s}(h:MapsOK x ms):Rng x.Prime ms:=by
 rintro k i j ⟨h1,h2,h3⟩;exact((h.t k h1).2 _ (jd h2 [])).2 _ (jd h3 0)
inductive Ch {α:Type} (R:α→Int→Int→Prop):List α→Int→Int→Prop
 |nil (k:Int):Ch R [] k k
 |cons {a:α} {l:List α} {k j m:Int}:R a k j→Ch R l j m→Ch R (a::l) k m
theorem Ch.snoc{α:Type}{R:α→Int→Int→Prop}{a:α}{j m:Int}(h:R a j m):∀ {l:List α} {k:Int},Ch R l k j→Ch R (l++[a]) k m
 |_,_,.nil _=> .cons h (.nil _)
 |_,_,.cons p q=> .cons p (Ch.snoc h q)
theorem take_set_app{α:Type}{l:List α}{i:Nat}(hi:i < l.length)(a:α):(l.set i a).take (i+1)=l.take i++[a]:=by
 rw[List.take_add_one,List.getElem?_set_self hi,List.take_set_of_le (wD _)]; rfl
theorem mark_loop{α:Type}{l:List α}{R:α→Int→Int→Prop}{M k:Int}{B:Int→List α×Int→Option ((List α×Int)⊕(List α×Int))}{D:Int→List α×Int→Option (List α×Int)}(hl:l.length≤1048576)(hM:0≤M)
  (hB:∀ (i:Nat) (hi:i < l.length) (s:List α) (j:Int),s.length=l.length→s[i]? =some l[i]→k≤j→j≤k+i*M→∃a m,B i (s,j)=some (.inl (s.set i a,m))∧R a j m∧j≤m∧m≤j+M) (hD:∀i s,D i s=some s):
  ∃r j,forR 0 (l.length:Int) B D (l,k)=some (r,j)∧Ch R r k j∧k≤j∧j≤k+l.length*M∧r.length=l.length:=by
 have hlen:l.length < 4611686018427387904:=by omega
 obtain⟨t,h1,h2,h3,h4,h5⟩:=qo (B:=B) (D:=D) l.length rfl hlen (fun i s=> s.1.length=l.length∧(∀n,i≤n→s.1[n]? =l[n]?)∧Ch R (s.1.take i) k s.2∧k≤s.2∧s.2≤k+i*M) (fun t=> Ch R t.1 k t.2∧k≤t.2∧t.2≤k+l.length*M∧t.1.length=l.length) (s:=(l,k)) ⟨rfl,fun _ _=> rfl,by simpa using Ch.nil k,vW _,by simp⟩ (by
  rintro i ⟨s,j⟩ hi ⟨p1,p2,p3,p4,p5⟩;simp only at p1 p2 p3 p4 p5;left;obtain⟨a,m,q1,q2,q3,q4⟩:=hB i hi s j p1 (by rw[p2 i (wD _)]; simp[hi]) p4 p5;refine⟨_,q1,by simp[p1],fun n hn=>?_,?_,by simp only; omega,?_⟩
  ·simp only
   rw[List.getElem?_set_ne (by omega)]; exact p2 n (by omega)
  ·simp only
   rw[take_set_app (by omega)]; exact p3.snoc q2
  ·simp only
   rw[Int.natCast_add,Int.add_mul]; omega) (by
  rintro⟨s,j⟩ ⟨p1,p2,p3,p4,p5⟩;simp only at p1 p2 p3 p4 p5;refine⟨_,hD _ _,?_,p4,p5,p1⟩;rw[←p1,vO]at p3;exact p3)
 exact⟨t.1,t.2,h1,h2,h3,h4,h5⟩
def Mk0(n:Int)(k m:Int):Prop:=n=k∧m=k+1
def Mk1(l:List Int)(k m:Int):Prop:=l.length≤1048576∧k≤m∧m≤k+1048576∧Ch Mk0 l k m
def Mk2(l:List (List Int))(k m:Int):Prop:=l.length≤1048576∧k≤m∧m≤k+1099511627776∧Ch Mk1 l k m
def Mk3(l:List (List (List Int)))(k m:Int):Prop:=l.length≤1048576∧k≤m∧m≤k+1152921504606846976∧Ch Mk2 l k m
theorem F31_mk{l:List Int}(h:l.length≤1048576){k:Int}(h0:0≤k)(h1:k≤9223372036850000000):∃r m,F31 l k=some (r,m)∧Mk1 r k m:=by
 obtain⟨r,j,g1,g2,g3,g4,g5⟩:=mark_loop (R:=Mk0) (k:=k) (B:=F31_1_B) (D:=F31_1_D) (M:=1) h (by decide) (by
  intro i hi s j e1 e2 e3 e4;unfold F31_1_B;simp only;rw[qU (by omega),ob,qi (by omega) (by omega),ob];exact⟨_,_,rfl,⟨rfl,rfl⟩,by omega,by omega⟩) (fun i s=> rfl)
 exact⟨r,j,g1,by omega,g3,by omega,g2⟩
theorem F52_mk{l:List (List Int)}(h:l.length≤1048576)(h2:∀r∈l,r.length≤1048576){k:Int}(h0:0≤k)(h1:k≤9200000000000000000):∃r m,F52 l k=some (r,m)∧Mk2 r k m:=by
 obtain⟨r,j,g1,g2,g3,g4,g5⟩:=mark_loop (R:=Mk1) (k:=k) (B:=F52_1_B) (D:=F52_1_D) (M:=1048576) h (by decide) (by
  intro i hi s j e1 e2 e3 e4;unfold F52_1_B;simp only;obtain⟨r,m,q1,q2⟩:=F31_mk (h2 _ (wC hi)) (k:=j) (by omega) (by omega);have e5:getI s (i:Int)=some l[i]:=by unfold getI; rw[if_pos (by omega),wM]; exact e2
  rw[e5,ob,q1,ob,qU (by omega),ob];exact⟨_,_,rfl,q2,q2.2.1,q2.2.2.1⟩) (fun i s=> rfl)
 exact⟨r,j,g1,by omega,g3,by omega,g2⟩
theorem F21_mk{l:List (List (List Int))}(h:l.length≤1048576)(h2:∀m∈l,m.length≤1048576∧∀r∈m,r.length≤1048576){k:Int}(h0:0≤k)(h1:k≤8000000000000000000):∃r m,F21 l k=some (r,m)∧Mk3 r k m:=by
 obtain⟨r,j,g1,g2,g3,g4,g5⟩:=mark_loop (R:=Mk2) (k:=k) (B:=F21_1_B) (D:=F21_1_D) (M:=1099511627776) h (by decide) (by
  intro i hi s j e1 e2 e3 e4;unfold F21_1_B;simp only;have hh:=h2 _ (wC hi);obtain⟨r,m,q1,q2⟩:=F52_mk hh.1 hh.2 (k:=j) (by omega) (by omega);have e5:getI s (i:Int)=some l[i]:=by unfold getI; rw[if_pos (by omega),wM]; exact e2
  rw[e5,ob,q1,ob,qU (by omega),ob];exact⟨_,_,rfl,q2,q2.2.1,q2.2.2.1⟩) (fun i s=> rfl)
 exact⟨r,j,g1,by omega,g3,by omega,g2⟩
theorem Ch.le{α:Type}{R:α→Int→Int→Prop}(hR:∀a s j,R a s j→s≤j):∀ {l:List α} {k m:Int},Ch R l k m→k≤m
 |_,_,_,.nil _=> vW _
 |_,_,_,.cons p q=> Int.le_trans (hR _ _ _ p) (Ch.le hR q)
structure MkC (y:GComplex) (k m:Int):Prop where
 ex:∃j,Mk1 y.Dims k j∧Mk3 y.Maps j m
theorem FM20_m{x:GComplex}(h:jp x){k:Int}(h0:0≤k)(h1:k≤1200000000000000000):∃y m,FM20 x k=some (y,m)∧k≤m∧m≤k+1152921504608000000∧MkC y k m:=by
 obtain⟨d,j,g1,g2⟩:=F31_mk h.d (k:=k) h0 (by omega);have b2:=g2.2.1;have b3:=g2.2.2.1;obtain⟨ms,m,k1,k2⟩:=F21_mk h.m h.r (k:=j) (by omega) (by omega);have b4:=k2.2.1;have b5:=k2.2.2.1;refine⟨⟨x.Prime,d,ms⟩,m,?_,by omega,by omega,⟨j,g2,k2⟩⟩;unfold FM20 F20;rw[g1,ob];simp only;rw[k1,ob,ob]
theorem jp.zero:jp (⟨0,[],[]⟩:GComplex):=⟨by simp,by simp,by simp⟩
theorem qX.zero:qX (⟨⟨0,[],[]⟩,[]⟩:GFiltered):=⟨.zero,by simp,by simp⟩
theorem tmod_pos{a p:Int}(h:0≤a):a.tmod p=a% p:=Int.tmod_eq_emod_of_nonneg h
theorem tmod_cg{a p:Int}:Cg p (a.tmod p) a:=⟨-(a.tdiv p),by have:=Int.tmod_add_mul_tdiv a p; grind⟩
theorem F127_eq{p x:Int}(hp:2≤p∧p≤7):F127 p x=some (x% p):=by
 have h1:=Int.tmod_lt_of_pos x (show 0 < p by omega);have h2: -p < x.tmod p:=by
  have h3:=Int.tmod_lt_of_pos (-x) (show 0 < p by omega);rw[Int.neg_tmod]at h3; omega
 unfold F127;rw[remI_ok (by omega),ob,qi (by omega) (by omega),ob,remI_ok (by omega),ob,tmod_pos (by omega)]
 congr 1
 exact Cg.emod ((tmod_cg.add (Cg.refl p p)).trans ⟨1,by grind⟩)
theorem idx_loop{α:Type}{l:List α}(g:Nat→α→α){B:Int→List α→Option (List α⊕List α)}{D:Int→List α→Option (List α)}(hl:l.length≤1048576)
  (hB:∀ (i:Nat) (hi:i < l.length) (s:List α),s.length=l.length→(∀k,s[k]? =if k < i then(l[k]?).map (g k)else l[k]?)→B i s=some (.inl (s.set i (g i l[i])))) (hD:∀i s,D i s=some s):forR 0 (l.length:Int) B D l=some (l.mapIdx g):=by
 obtain⟨t,h1,h2⟩:=qo (B:=B) (D:=D) l.length rfl (by omega) (fun i s=> s.length=l.length∧∀k,s[k]? =if k < i then(l[k]?).map (g k)else l[k]?) (fun t=> t=l.mapIdx g) (s:=l) ⟨rfl,fun k=> by simp⟩ (by
  rintro i s hi ⟨p1,p2⟩;left;refine⟨_,hB i hi s p1 p2,by rw[vA]; exact p1,fun k=>?_⟩;rw[List.getElem?_set];by_cases e:i=k
  ·subst e; rw[if_pos rfl,if_pos (by omega),if_pos (by omega)]; simp[hi]
  ·rw[if_neg e,p2 k]
   by_cases q:k < i
   ·rw[if_pos q,if_pos (by omega)]
   ·rw[if_neg q,if_neg (by omega)]) (by
  rintro s ⟨p1,p2⟩;refine⟨s,hD _ _,?_⟩;apply List.ext_getElem?;intro k;rw[p2 k,List.getElem?_mapIdx];by_cases q:k < l.length
  ·rw[if_pos q]
  ·rw[if_neg q,List.getElem?_eq_none (by omega)]; rfl)
 rw[h1,h2]
theorem jm{v:List Int}{j:Nat}(h:j < v.length):getI v (j:Int)=some (nth v j):=by rw[qg h,qY h]
theorem rng_mul{p a b:Int}(hp:2≤p∧p≤7)(ha:0≤a∧a < p)(hb:0≤b∧b < p):0≤a*b∧a*b≤49:=by
 refine⟨Int.mul_nonneg ha.1 hb.1,?_⟩;have:=Int.mul_le_mul (show a≤7 by omega) (show b≤7 by omega) hb.1 (by decide);omega
theorem scl_loop{p k:Int}{w:Nat}(hp:2≤p∧p≤7)(hk:0≤k∧k < p){v:List Int}(hv:qF p w v)(hw:w≤1048576){B:Int→List Int→Option (List Int⊕List Int)}{D:Int→List Int→Option (List Int)}
  (hB:∀i row,B i row=(getI row i).bind fun x=>(chk (x*k)).bind fun m=>(remI m p).bind fun z=>(setI row i z).bind fun r=> some (.inl r)) (hD:∀i s,D i s=some s):forR 0 (v.length:Int) B D v=some (scl p v k):=by
 have hl:=hv.len;rw[idx_loop (fun _ x=> x*k% p) (by omega) (fun i hi s hs hk'=>?_) hD]
 ·congr 1
  apply List.ext_getElem <;> simp[scl]
 ·have h1:s[i]? =v[i]?:=by rw[hk' i,if_neg (Nat.lt_irrefl _)]
  have h2:s[i]'(by omega)=v[i]:=by
   have:=h1;rw[List.getElem?_eq_getElem (by omega),List.getElem?_eq_getElem hi]at this;exact wA this
  have hr:=hv.rng i (by omega);rw[qY hi]at hr;have hm:=rng_mul hp hr hk;rw[hB,qg (show i < s.length by omega),ob,h2,qi (by omega) (by omega),ob,remI_ok (by omega),ob,qU (by omega),ob,tmod_pos hm.1]
theorem F136_eq{p k:Int}{w:Nat}(hp:2≤p∧p≤7)(hk:0≤k∧k < p){v u:List Int}(hv:qF p w v)(hu:qF p w u)(hw:w≤1048576):F136 p v u k=some (subv p v u k):=by
 have hl:=hv.len;have hul:=hu.len;have hsl:(subv p v u k).length=w:=by simp[subv,hl,hul]
 unfold F136;obtain⟨t,g1,g2⟩:=qo (B:=F136_1_B p v u k) (D:=F136_1_D p v u k) v.length rfl (by omega) (fun i s=> s=(subv p v u k).take i) (fun t=> t=subv p v u k) (s:=[]) (by simp) (by
  rintro i s hi rfl;left;have hiw:i < w:=by omega
  have h1:=hv.rng i hiw;have h2:=hu.rng i hiw;have hm:=rng_mul hp hk h2;refine⟨(subv p v u k).take (i+1),?_,rfl⟩;unfold F136_1_B;rw[jm hi,ob,jm (by omega),ob,qi (by omega) (by omega),ob,qi (by omega) (by omega),ob,F127_eq hp,ob,qW (by simp; omega) (by simp; omega),ob]
  congr 2
  rw[←vK (show i < (subv p v u k).length by omega)]
  congr 2
  have:=zk (p:=p) (k:=k) hl hul hiw;rw[qY (by omega)]at this;exact this.symm) (by
  rintro s rfl;refine⟨_,rfl,?_⟩;rw[wL (by omega)])
 rw[g1,ob,g2]
theorem F81_ld{r:List Int}(hl:r.length≤1048576):F81 r=some (if ld r < r.length then(ld r:Int)else -1):=by
 unfold F81;obtain⟨t,g1,g2⟩:=qo (B:=F81_1_B r) (D:=F81_1_D r) r.length rfl (by omega) (fun i _=> i≤ld r) (fun t=>(t= .inl ()∧r.length≤ld r)∨(t= .inr (ld r:Int)∧ld r < r.length)) (s:=()) (vP _) (by
  rintro i _ hi hI;unfold F81_1_B;rw[jm hi,ob];by_cases h:nth r i=0
  ·left
   rw[if_pos h];refine⟨(),rfl,?_⟩;rcases wS i (ld r)with q|q
   ·exact q
   ·have:i=ld r:=by omega
    subst this;exact absurd h (ld_ne hi)
  ·right
   rw[if_neg h];refine⟨_,rfl,.inr ?_⟩;have:ld r=i:=by
    rcases wS i (ld r)with q|q
    ·exact absurd (zx q) h
    ·omega
   rw[this]; exact⟨rfl,hi⟩) (by
  rintro _ hI;exact⟨_,rfl,.inl ⟨rfl,hI⟩⟩)
 rw[g1,ob];rcases g2 with⟨rfl,h⟩|⟨rfl,h⟩
 ·rw[if_neg (by omega)]
 ·rw[if_pos h]
theorem inv_ex{p x:Int}(hp:IsP p)(h1:1≤x)(h2:x < p):∃m,1≤m∧m < p∧m*x% p=1:=by
 unfold IsP at hp;rcases hp with rfl|rfl|rfl|rfl
 ·obtain rfl:x=1:=by omega
  exact⟨1,by decide⟩
 ·have:x=1∨x=2:=by omega
  rcases this with rfl|rfl
  ·exact⟨1,by decide⟩
  ·exact⟨2,by decide⟩
 ·have:x=1∨x=2∨x=3∨x=4:=by omega
  rcases this with rfl|rfl|rfl|rfl
  ·exact⟨1,by decide⟩
  ·exact⟨3,by decide⟩
  ·exact⟨2,by decide⟩
  ·exact⟨4,by decide⟩
 ·have:x=1∨x=2∨x=3∨x=4∨x=5∨x=6:=by omega
  rcases this with rfl|rfl|rfl|rfl|rfl|rfl
  ·exact⟨1,by decide⟩
  ·exact⟨4,by decide⟩
  ·exact⟨5,by decide⟩
  ·exact⟨2,by decide⟩
  ·exact⟨3,by decide⟩
  ·exact⟨6,by decide⟩
theorem cg_one{p a:Int}(hp:2≤p∧p≤7)(h:a% p=1):Cg p a 1:=by
 have:=(Cg.mod p a).symm
 rwa[h]at this
theorem F135_eq{p x:Int}(hp:IsP p)(h1:1≤x)(h2:x < p):∃k,F135 p x=some k∧0≤k∧k < p∧Cg p (x*k) 1:=by
 have hr:=hp.range;obtain⟨m,m1,m2,m3⟩:=inv_ex hp h1 h2;obtain⟨n,hn⟩:∃n:Nat,p=n:=⟨p.toNat,by omega⟩;obtain⟨t,g1,k,rfl,g2,g3,g4⟩:=forR_from (B:=F135_1_B p x) (D:=F135_1_D p x) (lo:=1) (hi:=p) 1 n rfl hn (by omega) (by omega) (fun i _=> 1≤i∧∀j:Int,1≤j→j < i→j*x% p≠1) (fun t=>∃k:Int,t= .inr k∧0≤k∧k < p∧Cg p (x*k) 1) (s:=()) ⟨wD _,fun j a b=> by omega⟩ (by
  rintro i _ hi ⟨h0,hI⟩;unfold F135_1_B;have hm:=rng_mul hr (show 0≤(i:Int)∧(i:Int) < p by omega) (show 0≤x∧x < p by omega);rw[F127_eq hr,ob,Int.emod_eq_of_lt (show 0≤x by omega) h2,qi (by omega) (by omega),ob,remI_ok (by omega),ob,tmod_pos hm.1];by_cases h:(i:Int)*x% p=1
  ·right
   rw[if_pos h];exact⟨_,rfl,_,rfl,by omega,by omega,by rw[Int.mul_comm]; exact cg_one hr h⟩
  ·left
   rw[if_neg h];refine⟨(),rfl,by omega,fun j a b=>?_⟩;by_cases e:j=i
   ·subst e; exact h
   ·exact hI j a (by omega)) (by
  rintro _ ⟨h0,hI⟩;exact absurd m3 (hI m m1 (by omega)))
 unfold F135;rw[g1,ob];exact⟨k,rfl,g2,g3,g4⟩
theorem F138_eq{p x:Int}(hp:IsP p)(h1:1≤x)(h2:x < p):∃k,F138 p x=some k∧0≤k∧k < p∧Cg p (x*k) 1:=by
 have hr:=hp.range;obtain⟨m,m1,m2,m3⟩:=inv_ex hp h1 h2;obtain⟨t,g1,g2,g3,g4⟩:=qA (S:=F138_1_S p x) (fun v=>(m - v).toNat) (fun v=> 1≤v∧v≤m) (fun t=> 0≤t∧t < p∧Cg p (x*t) 1) (s:=1) ⟨by decide,m1⟩ (by
  rintro v ⟨v1,v2⟩;unfold F138_1_S;have hm:=rng_mul hr (show 0≤v∧v < p by omega) (show 0≤x∧x < p by omega);rw[qi (by omega) (by omega),ob,remI_ok (by omega),ob,tmod_pos hm.1];by_cases h:v*x% p=1
  ·right
   rw[if_pos h];exact⟨_,rfl,by omega,by omega,by rw[Int.mul_comm]; exact cg_one hr h⟩
  ·left
   have hne:v≠m:=fun e=> by rw[e]at h; exact h m3
   rw[if_neg h,qi (by omega) (by omega),ob];exact⟨_,rfl,⟨by omega,by omega⟩,by omega⟩)
 unfold F138;rw[g1,ob];exact⟨t,rfl,g2,g3,g4⟩
theorem F139_eq{p k:Int}{w:Nat}(hp:2≤p∧p≤7)(hk:0≤k∧k < p){r o:List Int}(hr:qF p w r)(ho:qF p w o)(hw:w≤1048576):F139 r o p k=some (subv p r o k):=by
 have hl:=hr.len;have hol:=ho.len;unfold F139;rw[show(o.length:Int)=(r.length:Int) by omega,idx_loop (l:=r) (B:=F139_1_B o p k) (D:=F139_1_D) (fun i x=>(x - k*nth o i)% p) (by omega) (fun i hi s hs hk'=>?_) (fun i s=> rfl)]
 ·congr 1
  have hsl:(subv p r o k).length=w:=by simp[subv,hl,hol]
  apply List.ext_getElem (by simp[hl,hsl]);intro i h1 h2;have hi:i < w:=by omega
  have:=zk (p:=p) (k:=k) hl hol hi;rw[qY h2,qY (show i < r.length by omega)]at this;rw[this]; simp
 ·have h1:s[i]? =r[i]?:=by rw[hk' i,if_neg (Nat.lt_irrefl _)]
  have h2:s[i]'(by omega)=r[i]:=by
   have:=h1;rw[List.getElem?_eq_getElem (by omega),List.getElem?_eq_getElem hi]at this;exact wA this
  have a1:=hr.rng i (by omega);rw[qY hi]at a1;have a2:=ho.rng i (by omega);have hm:0≤(p - k)*nth o i∧(p - k)*nth o i≤49:=by
   refine⟨Int.mul_nonneg (by omega) a2.1,?_⟩;have:=Int.mul_le_mul (show p - k≤7 by omega) (show nth o i≤7 by omega) a2.1 (by decide);omega
  unfold F139_1_B;rw[jm (by omega),ob,qg (show i < s.length by omega),ob,h2,qi (by omega) (by omega),ob,qi (by omega) (by omega),ob,qi (by omega) (by omega),ob,remI_ok (by omega),ob,qU (by omega),ob,tmod_pos (by omega)]
  congr 3
  exact Cg.emod ⟨nth o i,by grind⟩
theorem F134_eq{p:Int}{w:Nat}(hp:2≤p∧p≤7){R:List (List Int)}(hR:Red p w R){v:List Int}(hv:qF p w v)(hw:w≤1048576)(hn:R.length≤1048576):F134 p R v=some (rest p R v):=by
 have hp0:0 < p:=by omega
 unfold F134;rw[F94_eq (by rw[hv.len]; exact hw),ob];have key:∀i,i≤R.length→qF p w (rest p (R.take i) v):=fun i _=> xj hp0 (fun r hr=> hR.ok r (wU hr)) hv;obtain⟨t,g1,g2⟩:=qo (B:=F134_1_B p R) (D:=F134_1_D p R) R.length rfl (by omega) (fun i s=> s=rest p (R.take i) v) (fun t=> t=rest p R v) (s:=v) rfl (by
  rintro i s hi rfl;left;refine⟨_,?_,rfl⟩;have hk:=key i (by omega);have hm:=wC hi;have hok:=hR.ok _ hm;have hone:=hR.one _ hm;unfold F134_1_B;rw[qg hi,ob,F81_ld (by rw[hok.len]; exact hw),if_pos (by rw[hok.len]; exact hone.1),ob,jm (by rw[hk.len]; exact hone.1),ob,F136_eq hp (hk.rng _ hone.1) hk hok hw,ob]
  congr 2
  rw[←vK hi];unfold rest;rw[List.foldl_append]; rfl) (by
  rintro s rfl;exact⟨_,rfl,by rw[vO]⟩)
 rw[g1,ob,g2]
theorem ins_cons{p:Int}{own:List Int}{a:Nat}{o:List Int}{out:List (List Int)}:ins p own a (o::out)=if a < ld o then own::insF p own a o::out.map (insF p own a)else insF p own a o::ins p own a out:=rfl
theorem F131_3_eq{p:Int}{w a:Nat}(hp:2≤p∧p≤7){out:List (List Int)}{own:List Int}(hR:Red p w out)(n:New p w out own a)(hw:w≤1048576)(hn:out.length≤1000000):
  ∃nx put,forR 0 (out.length:Int) (F131_3_B p out own a) F131_3_D ([],false)=some (nx,put)∧(if put=true then nx else nx++[own])=ins p own a out∧nx.length≤2000000:=by
 obtain⟨t,g1,g2,g3⟩:=qo (B:=F131_3_B p out own a) (D:=F131_3_D) out.length rfl (by omega) (fun i s=> s.1.length≤2*i∧(s.2=true→s.1++(out.drop i).map (insF p own a)=ins p own a out)∧(s.2=false→s.1++ins p own a (out.drop i)=ins p own a out))
  (fun t=>(if t.2=true then t.1 else t.1++[own])=ins p own a out∧t.1.length≤2000000) (s:=([],false)) ⟨by simp,by simp,by simp⟩ (by
  rintro i ⟨nx,put⟩ hi ⟨p1,p2,p3⟩;simp only at p1 p2 p3;left;have hm:=wC hi;have hok:=hR.ok _ hm;have hone:=hR.one _ hm;have hr:=hok.rng a n.lt;have hq:F136 p out[i] own (nth out[i] a)=some (insF p own a out[i]):=F136_eq hp hr hok n.ok hw;rw[yS hi]at p2 p3;unfold F131_3_B F131_3_C;simp only;cases put with
  |true=>
   have e:=p2 rfl;rw[if_pos rfl,ob,if_neg wE,ob,qg hi,ob,jm (by rw[hok.len]; exact n.lt),ob,hq,ob,qW (by simp; omega) (by simp; omega),ob];exact⟨_,rfl,by simp; omega,fun _=> by rw[←e]; simp only[wX,wR,vE,vS],fun h=> by cases h⟩
  |false=>
   have e:=p3 rfl;rw[if_neg wE,qg hi,ob,F81_ld (by rw[hok.len]; exact hw),if_pos (by rw[hok.len]; exact hone.1),ob,ob];by_cases h:a < ld out[i]
   ·have hd:decide ((a:Int) < (ld out[i]:Int))=true:=by simpa using h
    rw[ins_cons,if_pos h]at e;rw[hd,if_pos rfl,qW (by simp; omega) (by simp; omega),ob,ob,ob,jm (by rw[hok.len]; exact n.lt),ob,hq,ob,qW (by simp; omega) (by simp; omega),ob];exact⟨_,rfl,by simp; omega,fun _=> by rw[←e]; simp only[wX,wR,vE,vS],fun h=> by cases h⟩
   ·have hd:decide ((a:Int) < (ld out[i]:Int))=false:=by simpa using h
    rw[ins_cons,if_neg h]at e;rw[hd,if_neg wE,ob,ob,jm (by rw[hok.len]; exact n.lt),ob,hq,ob,qW (by simp; omega) (by simp; omega),ob];exact⟨_,rfl,by simp; omega,(fun h=> by cases h),fun _=> by rw[←e]; simp only[wR,vE,vS]⟩) (by
  rintro⟨nx,put⟩ ⟨p1,p2,p3⟩;simp only at p1 p2 p3;refine⟨_,rfl,?_,by simp only; omega⟩;rw[List.drop_length]at p2 p3;cases put with
  |true=> simpa using p2 rfl
  |false=> simpa[ins]using p3 rfl)
 exact⟨t.1,t.2,g1,g2,g3⟩
theorem F131_ech{p:Int}{w:Nat}(hp:IsP p){rows:List (List Int)}(hr:Rows p w rows)(hw:w≤1048576)(hn:rows.length≤1000000):∃out,F131 p rows=some out∧jk p w rows out:=by
 have hpr:=hp.range;have hp1:1 < p:=by omega
 obtain⟨t,g1,g2,g3⟩:=qo (B:=F131_1_B p rows) (D:=F131_1_D) rows.length rfl (by omega) (fun i s=> jk p w (rows.take i) s∧s.length≤i) (fun t=> jk p w rows t∧t.length≤rows.length) (s:=[]) ⟨.nil p w,wD _⟩ (by
  rintro i out hi ⟨p1,p2⟩;left;have hrow:=hr _ (wC hi);have hrt:Rows p w (rows.take i):=fun r h=> hr r (wU h);have hrest:=xj (show 0 < p by omega) p1.red.ok hrow;have hl:¬(ld (rest p out rows[i]) < w)∨ld (rest p out rows[i]) < w:=by omega
  unfold F131_1_B;rw[qg hi,ob,F134_eq hpr p1.red hrow hw (by omega),ob,F81_ld (by rw[hrest.len]; exact hw),ob,hrest.len];rcases hl with hl|hl
  ·rw[if_neg hl,if_pos (by decide)]
   refine⟨out,rfl,?_,by omega⟩;rw[←vK hi];exact p1.skip hp1 hrt hrow fun j hj=> zx (by omega)
  ·rw[if_pos hl,if_neg (by omega)]
   have hne:=ld_ne (r:=rest p out rows[i]) (by rw[hrest.len]; exact hl);have hrg:=hrest.rng _ hl;obtain⟨k,k1,k2,k3,k4⟩:=F135_eq hp (x:=nth (rest p out rows[i]) (ld (rest p out rows[i]))) (by omega) hrg.2;have n:=p1.new hp1 hrow hl (fun j hj=> zx hj) k4;obtain⟨nx,put,q1,q2,q3⟩:=F131_3_eq hpr p1.red n hw (by omega);have hlen:((rest p out rows[i]).length:Int)=(w:Int):=by rw[hrest.len]
   have hsc:=scl_loop hpr ⟨k2,k3⟩ hrest hw (B:=F131_2_B p k) (D:=F131_2_D) (fun i row=> rfl) (fun i s=> rfl);have hput:=p1.put hp1 hrt hrow hl (fun j hj=> zx hj) k4;rw[vK hi]at hput;rw[jm (by rw[hrest.len]; exact hl),ob,k1,ob,←hlen,hsc,ob,q1,ob];simp only;cases put with
   |true=>
    rw[if_pos rfl]at q2 ⊢;rw[q2];exact⟨_,rfl,hput,by rw[ins_len]; omega⟩
   |false=>
    rw[if_neg wE]at q2 ⊢;rw[qW (by simp; omega) (by simp; omega),ob,q2];exact⟨_,rfl,hput,by rw[ins_len]; omega⟩) (by
  rintro out ⟨p1,p2⟩;rw[vO]at p1;exact⟨_,rfl,p1,p2⟩)
 exact⟨t,g1,g2⟩
theorem F128_first{l:List (List Int)}{f:List Int→Option Bool}(P:List Int→Bool)(hl:l.length≤1048576)(hf:∀x∈l,f x=some (P x)):∃i:Int,F128 l f=some i∧((i= -1∧∀x∈l,P x=false)∨∃m:Nat,i=m∧m < l.length∧P (qr l m)=true):=by
 unfold F128;obtain⟨t,h1,h2⟩:=qo (B:=xB l f) (D:=F128_1_D l f) (hi:=l.length) l.length rfl (by omega) (fun i _=>∀k (hk:k < i) (h2:k < l.length),P l[k]=false) (fun t=>(t= .inl ()∧∀x∈l,P x=false)∨∃m:Nat,t= .inr (m:Int)∧m < l.length∧P (qr l m)=true) (s:=()) (fun k hk=> by omega) (by
  intro i _ hi hI;unfold xB;rw[qg hi,ob,hf _ (wC hi),ob];cases hp:P l[i]with
  |true=> right; exact⟨_,rfl,.inr ⟨i,rfl,hi,by rw[qG hi]; exact hp⟩⟩
  |false=>
   left;refine⟨(),rfl,fun k hk h2=>?_⟩;by_cases e:k=i
   ·subst e; exact hp
   ·exact hI k (by omega) h2) (by
  intro _ hI;refine⟨.inl (),rfl,.inl ⟨rfl,fun x hx=>?_⟩⟩;obtain⟨k,hk,rfl⟩:=wY hx;exact hI k hk hk)
 rw[h1,ob];rcases h2 with⟨rfl,h2⟩|⟨m,rfl,h2⟩
 ·exact⟨_,rfl,.inl ⟨rfl,h2⟩⟩
 ·exact⟨_,rfl,.inr ⟨m,rfl,h2⟩⟩
theorem gstep_loop{p:Int}{w c d:Nat}(hp:2≤p∧p≤7){l:List (List Int)}{row:List Int}(hl:Rows p w l)(hd:d < l.length)(hrow:qr l d=row)(hc:c < w)(hw:w≤1048576)(hn:l.length≤1000000):
  forR 0 (l.length:Int) (F133_4_B p c d) F133_4_D l=some (jh p c d row l):=by
 have hdr:=hl _ (zO hd);rw[hrow]at hdr;rw[idx_loop (l:=l) (B:=F133_4_B p c d) (D:=F133_4_D) (fun i r=> if i=d then r else subv p r row (nth r c)) (by omega) (fun i hi s hs hk=>?_) (fun i s=> rfl)]
 ·unfold jh
  congr 1
  have:l.set d row=l:=by
   rw[←hrow,qG hd]; exact List.set_getElem_self hd
  rw[this]
 ·have h1:s[i]'(by omega)=l[i]:=by
   have:=hk i;rw[if_neg (Nat.lt_irrefl _),List.getElem?_eq_getElem (by omega),List.getElem?_eq_getElem hi]at this;exact wA this
  have h2:s[d]'(by omega)=row:=by
   have:=hk d;rw[List.getElem?_eq_getElem (by omega),List.getElem?_eq_getElem hd]at this;rw[←hrow,qG hd];split at this
   ·simpa using this
   ·exact wA this
  unfold F133_4_B;by_cases e:i=d
  ·subst e
   rw[if_pos rfl,if_pos rfl,←h1,List.set_getElem_self]
  ·have hr:=hl _ (wC hi)
   have hrc:=hr.rng c hc;rw[if_neg (by omega),if_neg e,qg (show i < s.length by omega),ob,qg (show d < s.length by omega),ob,h1,h2,jm (by rw[hr.len]; exact hc),ob,F139_eq hp hrc hr hdr hw,ob,qU (by omega),ob]
theorem F133_ech{p:Int}{w:Nat}(hp:IsP p){rows:List (List Int)}(hr:Rows p w rows)(hw:w≤1048576)(hn:rows.length≤1000000):∃out,F133 p rows=some out∧jk p w rows out:=by
 have hpr:=hp.range;have hp1:1 < p:=by omega
 unfold F133;rw[cpy_loop (l:=rows) (B:=F133_1_B rows) (D:=F133_1_D) (by omega) (fun i hi s hs=> by
  unfold F133_1_B;have:=hr _ (wC hi);rw[qg hi,ob,F96_eq (by rw[this.len]; exact hw),ob,qW (by simp; omega) (by simp; omega),ob]) (fun i s=> rfl),ob]
 by_cases h0:(rows.length:Int)=0
 ·rw[if_pos h0]
  have:rows=[]:=wQ (by omega);subst this;exact⟨_,rfl,.nil p w⟩
 rw[if_neg h0];have hpos:0 < rows.length:=by omega
 have e0:=qg hpos;simp only[Int.natCast_zero]at e0;have hw0:=(hr _ (wC hpos)).len;rw[show(0:Int)=((0:Nat):Int) from rfl,qg hpos,ob];obtain⟨t,g1,g2,g3,g4⟩:=qo (B:=F133_2_B p) (D:=F133_2_D) (hi:=(rows[0].length:Int)) w (by rw[hw0]) (by omega) (fun c s=>∃d:Nat,s.2=d∧d < s.1.length∧s.1.length=rows.length∧GInv p w rows c s.1 d)
  (fun t=> jk p w rows (t.1.take t.2.toNat)∧0≤t.2∧t.2≤t.1.length) (s:=(rows,0)) ⟨0,rfl,hpos,rfl,.start hr⟩ (by
  rintro c ⟨l,dd⟩ hc ⟨d,p1,p2,p3,g⟩;simp only at p1 p2 p3 g;subst p1;have hrl:∀x∈l.drop d,(fun r=> F137 r (c:Int)) x=some (!decide (nth x c=0)):=fun x hx=> by
   have hx':=g.ok x (yB hx);show F137 x c=_;unfold F137;rw[jm (by rw[hx'.len]; exact hc),ob]
  obtain⟨at_,a1,a2⟩:=F128_first (fun x=> !decide (nth x c=0)) (l:=l.drop d) (by simp; omega) hrl;unfold F133_2_B;simp only;rw[if_pos ⟨by omega,by omega⟩,wM,a1,ob];rcases a2 with⟨rfl,a2⟩|⟨m,rfl,a2,a3⟩
  ·rw[if_pos (by decide)]
   left;refine⟨_,rfl,d,rfl,p2,p3,g.skip hc fun i h1 h2=>?_⟩;have hx:qr l i∈l.drop d:=by
    rw[qG h2,List.mem_iff_getElem];exact⟨i - d,by simp; omega,by simp[show d+(i - d)=i by omega]⟩
   simpa using a2 _ hx
  ·have hml:m < l.length - d:=by simpa using a2
   have hj:d+m < l.length:=by omega
   have hrm:qr (l.drop d) m=qr l (d+m):=by rw[qG a2,qG hj,List.getElem_drop]
   rw[hrm]at a3;have hne:nth (qr l (d+m)) c≠0:=by simpa using a3
   have hrj:=g.ok _ (zO hj);have hrg:=hrj.rng c hc;obtain⟨k,k1,k2,k3,k4⟩:=F138_eq hp (x:=nth (qr l (d+m)) c) (by omega) hrg.2
   -- the swapped list
   have h2l:((l.set d (qr l (d+m))).set (d+m) (qr l d)).length=l.length:=by simp
   have h2:∀i,i < l.length→qr ((l.set d (qr l (d+m))).set (d+m) (qr l d)) i=qr l (if i=d+m then d else if i=d then d+m else i):=fun i hi=> by
    rw[qG (by simp; exact hi)];by_cases e:i=d+m
    ·subst e; rw[if_pos rfl]; simp
    ·rw[if_neg e,List.getElem_set_ne (yF e)]
     by_cases e2:i=d
     ·subst e2; rw[if_pos rfl]; simp
     ·rw[if_neg e2,List.getElem_set_ne (yF e2),qG hi]
   have gp:=g.put hp1 hc (show d≤d+m by omega) hj k4 h2l h2;have hrd:qr ((l.set d (qr l (d+m))).set (d+m) (qr l d)) d=qr l (d+m):=by
    rw[h2 d p2];by_cases e:d=d+m
    ·rw[if_pos e,←e]
    ·rw[if_neg e,if_pos rfl]
   generalize hl2:(l.set d (qr l (d+m))).set (d+m) (qr l d)=l2 at*;have hsc:=scl_loop hpr ⟨k2,k3⟩ hrj hw (B:=F133_3_B p k) (D:=F133_3_D) (fun i row=> rfl) (fun i s=> rfl);have ok2:Rows p w (l2.set d (scl p (qr l (d+m)) k)):=fun r hr'=> by
    rcases List.mem_or_eq_of_mem_set hr' with q|q
    ·obtain⟨i,hi,rfl⟩:=mem_row.1 q
     rw[h2 i (by omega)];refine g.ok _ (zO ?_);split
     ·exact p2
     ·split
      ·exact hj
      ·omega
    ·rw[q]; exact scl_ok (by omega) hrj k
   have hs3:(l2.set d (scl p (qr l (d+m)) k)).length=l.length:=by simp[h2l]
   have hr3:qr (l2.set d (scl p (qr l (d+m)) k)) d=scl p (qr l (d+m)) k:=by rw[qG (by omega)]; simp
   have hgl:=gstep_loop hpr ok2 (show d < _ by omega) hr3 hc hw (by omega);have hgs:jh p c d (scl p (qr l (d+m)) k) (l2.set d (scl p (qr l (d+m)) k))=jh p c d (scl p (qr l (d+m)) k) l2:=by unfold jh; rw[List.set_set]
   rw[hgs]at hgl;have hlen4:(jh p c d (scl p (qr l (d+m)) k) l2).length=l.length:=by rw[gstep_len]; exact h2l
   have e1:getI l ((d+m:Nat):Int)=some (qr l (d+m)):=by rw[qg hj,qG hj]
   have e2:getI l (d:Int)=some (qr l d):=by rw[qg p2,qG p2]
   have e3:getI l2 (d:Int)=some (qr l (d+m)):=by rw[qg (by omega),←qG (by omega),hrd]
   rw[if_neg (by omega),qi (by omega) (by omega),ob,show(d:Int)+(m:Int)=((d+m:Nat):Int) by omega,e1,ob,e2,ob,qU p2,ob,qU (by simp; omega),ob,hl2,e3,ob,
    jm (by rw[hrj.len]; exact hc),ob,k1,ob,hsc,ob,qU (by omega),ob,hgl,ob,qi (by omega) (by omega),ob]
   by_cases hd1:(d:Int)+1=((jh p c d (scl p (qr l (d+m)) k) l2).length:Int)
   ·right
    rw[if_pos hd1];refine⟨_,rfl,?_,by simp only; omega,by simp only; omega⟩;simp only;rw[show((d:Int)+1).toNat=d+1 by omega];exact gp.done hp1 (.inr (by omega))
   ·left
    rw[if_neg hd1];refine⟨_,rfl,d+1,by simp only; omega,by simp only; have:=gp.dn; omega,by simp only; omega,gp⟩) (by
  rintro⟨l,dd⟩ ⟨d,p1,p2,p3,g⟩;simp only at p1 p2 p3 g;subst p1;refine⟨_,rfl,?_,by simp only; omega,by simp only; omega⟩;simp only;rw[wM];exact g.done hp1 (.inl rfl))
 rw[show((0:Nat):Int)=(0:Int) from rfl,g1,ob,if_pos ⟨g3,g4⟩];exact⟨_,rfl,g2⟩
theorem qK{p:Int}{w:Nat}(hp:IsP p){rows:List (List Int)}(hr:Rows p w rows)(hw:w≤1048576)(hn:rows.length≤1000000):∃out,F131 p rows=some out∧F133 p rows=some out∧jk p w rows out:=by
 obtain⟨a,a1,a2⟩:=F131_ech hp hr hw hn;obtain⟨b,b1,b2⟩:=F133_ech hp hr hw hn;have:=a2.same (by have:=hp.range; omega) b2;subst this;exact⟨a,a1,b1,a2⟩
theorem F133_self{p:Int}{w:Nat}(hp:IsP p){E:List (List Int)}(h:Red p w E)(hw:w≤1048576)(hn:E.length≤1000000):F133 p E=some E:=by
 obtain⟨X, -,x2,x3⟩:=qK hp h.ok hw hn;rw[x2,x3.same (by have:=hp.range; omega) (jk.self h)]
theorem zK{p:Int}{w:Nat}{E:List (List Int)}(h:Red p w E):E.length≤w:=by
 have h1:=h.leads;have key:∀ (l:List Nat) (b:Nat),l.Pairwise (·< ·)→(∀x∈l,b≤x∧x < w)→l.length+b≤max w b:=by
  intro l;induction l with
  |nil=> intro b _ _; simp; omega
  |cons a l ih=>
   intro b hp hx;obtain⟨p1,p2⟩:=vL.1 hp;have ha:=hx a wF;have:=ih (a+1) p2 fun x hx'=>⟨p1 x hx',(hx x (wH _ hx')).2⟩;simp only[vI];omega
 have:=key (E.map ld) 0 h1 fun x hx=> by
  obtain⟨r,hr,rfl⟩:=wV.1 hx;exact⟨vP _,(h.one r hr).1⟩
 simpa using this
theorem set_app_right{r s:List Int}{i:Nat}(x:Int):(r++s).set (r.length+i) x=r++s.set i x:=by
 rw[List.set_append_right _ _ (by omega)]; simp
theorem F125_1_eq{p:Int}{w:Nat}{rows:List (List Int)}(hr:Rows p w rows){x2:List Int}(hx:x2.length=w)(hw:w≤1000)(hn:rows.length≤1000):
  forR 0 (rows.length:Int) (F125_1_B p rows x2) (F125_1_D p rows x2) []=some (zU rows.length rows):=by
 have hl:=longs_len rows.length rows;obtain⟨t,g1,g2⟩:=qo (B:=F125_1_B p rows x2) (D:=F125_1_D p rows x2) rows.length rfl (by omega) (fun i s=> s=(zU rows.length rows).take i) (fun t=> t=zU rows.length rows) (s:=[]) (by simp) (by
  rintro i s hi rfl;left;have hri:=hr _ (wC hi);refine⟨(zU rows.length rows).take (i+1),?_,rfl⟩;unfold F125_1_B appZ;have hz:List.replicate ((rows.length:Int)).toNat (0:Int)=zv rows.length:=by simp[zv]
  have hzl:(zv rows.length).length=rows.length:=by simp[zv]
  have e:((x2.length:Int)+(i:Int))=((rows[i].length+i:Nat):Int):=by rw[hx,hri.len]; omega
  rw[qg hi,ob,F96_eq (by rw[hri.len]; omega),ob,if_pos ⟨by omega,by omega,by omega⟩,hz,qW (by rw[hri.len,hzl]; omega) (by rw[hri.len,hzl]; omega),ob,qi (by rw[hx]; omega) (by rw[hx]; omega),ob,e,qg (by rw[wI,hzl]; omega),ob,
   qU (by rw[wI,hzl]; omega),ob,qW (by simp; omega) (by simp; omega),ob,set_app_right]
  congr 2
  rw[←vK (show i < (zU rows.length rows).length by omega),longs_at,qG hi];rfl) (by
  rintro s rfl;exact⟨_,rfl,by rw[wL (by omega)]⟩)
 rw[g1,g2]
theorem F122_1_eq{p:Int}{w:Nat}{rows:List (List Int)}(hr:Rows p w rows)(hw:w≤1000)(hn:rows.length≤1000):
  forR 0 (rows.length:Int) (F122_1_B p rows.length rows) (F122_1_D p rows.length rows) ([],0)=some (zU rows.length rows,if rows.length=0 then 0 else(w:Int)):=by
 have hl:=longs_len rows.length rows;obtain⟨t,g1,g2⟩:=qo (B:=F122_1_B p rows.length rows) (D:=F122_1_D p rows.length rows) rows.length rfl (by omega) (fun i s=> s=((zU rows.length rows).take i,if i=0 then 0 else(w:Int))) (fun t=> t=(zU rows.length rows,if rows.length=0 then 0 else(w:Int))) (s:=([],0)) (by simp) (by
  rintro i s hi rfl;left;have hri:=hr _ (wC hi);refine⟨((zU rows.length rows).take (i+1),if i+1=0 then 0 else(w:Int)),?_,rfl⟩;unfold F122_1_B;simp only;have hzl:(zv rows.length).length=rows.length:=by simp[zv]
  rw[mkL_ok rows.length rfl (by omega) (by omega),ob]
  change (getI (zv rows.length) (i:Int)).bind _=_
  rw[qg (by omega),ob]
  change (setI (zv rows.length) (i:Int) 1).bind _=_
  rw[qU (by omega),ob,qg hi,ob,F94_eq (by rw[hri.len]; omega),ob,qW (by simp[zv,hri.len]; omega) (by simp[zv,hri.len]; omega),ob,qW (by simp; omega) (by simp; omega),ob,if_neg (by omega),hri.len]
  congr 3
  rw[←vK (show i < (zU rows.length rows).length by omega),longs_at,qG hi];rfl) (by
  rintro s rfl;exact⟨_,rfl,by rw[wL (by omega)]⟩)
 rw[g1,g2]
theorem tails_take{w i:Nat}{E:List (List Int)}(hi:i < E.length):zH w (E.take (i+1))=if w≤ld E[i]then zH w (E.take i)++[E[i].drop w]else zH w (E.take i):=by
 unfold zH;rw[←vK hi,List.filter_append,uE];by_cases h:w≤ld E[i]
 ·rw[if_pos h]; simp[h]
 ·rw[if_neg h]; simp[h]
theorem tails_len{w:Nat}{E:List (List Int)}:(zH w E).length≤E.length:=by
 unfold zH;rw[vT]; exact List.length_filter_le _ _
theorem F122_2_eq{p:Int}{w n:Nat}{E:List (List Int)}(h:Red p (w+n) E)(hw:w+n≤10000):
  forR 0 (E.length:Int) (jr w E) (jL w E) []=some (zH w E):=by
 have hE:=zK h;obtain⟨t,g1,g2⟩:=qo (B:=jr w E) (D:=jL w E) E.length rfl (by omega) (fun i s=> s=zH w (E.take i)) (fun t=> t=zH w E) (s:=[]) (by simp[zH]) (by
  rintro i s hi rfl;left;have hk:=h.ok _ (wC hi);have ho:=h.one _ (wC hi);have htl:(zH w (E.take i)).length≤10000:=by have:=tails_len (w:=w) (E:=E.take i); simp at this; omega
  refine⟨zH w (E.take (i+1)),?_,rfl⟩;rw[tails_take hi];unfold jr;rw[qg hi,ob,F81_ld (by rw[hk.len]; omega),if_pos (by rw[hk.len]; exact ho.1),ob];by_cases q:w≤ld E[i]
  ·rw[if_pos (by omega),if_pos q]
   unfold slI;rw[if_pos ⟨by omega,by rw[hk.len]; omega,vW _⟩,ob,wM,wM,vO,F94_eq (by simp[hk.len]; omega),ob,qW (by simp; omega) (by simp; omega),ob]
  ·rw[if_neg (by omega),if_neg q]) (by
  rintro s rfl;exact⟨_,rfl,by rw[vO]⟩)
 rw[g1,g2]
theorem isZero_take{r:List Int}{w:Nat}(h:w≤r.length):(∀x∈r.take w,x=0)↔w≤ld r:=by
 constructor
 ·intro hx
  refine Nat.le_of_not_lt fun q=>?_;have hl:ld r < r.length:=by omega
  refine ld_ne hl (by rw[qY hl]; exact hx _ (List.mem_take_iff_getElem.2 ⟨ld r,by omega,rfl⟩))
 ·intro q x hx
  obtain⟨i,hi,rfl⟩:=List.mem_take_iff_getElem.1 hx;have:=zx (r:=r) (j:=i) (by omega)
  rwa[qY (by omega)]at this
theorem F125_2_eq{p:Int}{w n:Nat}{E:List (List Int)}(h:Red p (w+n) E)(hw:w+n≤10000){x2:List Int}(hx:x2.length=w):
  forR 0 (E.length:Int) (F125_2_B p x2 E) (F125_2_D p x2 E) []=some (zH w E):=by
 have hE:=zK h;obtain⟨t,g1,g2⟩:=qo (B:=F125_2_B p x2 E) (D:=F125_2_D p x2 E) E.length rfl (by omega) (fun i s=> s=zH w (E.take i)) (fun t=> t=zH w E) (s:=[]) (by simp[zH]) (by
  rintro i s hi rfl;left;have hk:=h.ok _ (wC hi);have ho:=h.one _ (wC hi);have htl:(zH w (E.take i)).length≤10000:=by have:=tails_len (w:=w) (E:=E.take i); simp at this; omega
  refine⟨zH w (E.take (i+1)),?_,rfl⟩;rw[tails_take hi];unfold F125_2_B slI;rw[qg hi,ob,hx,if_pos ⟨by omega,by omega,by rw[hk.len]; omega⟩,ob,wM,Int.toNat_zero,vD];rcases((F92_tells (l:=E[i].take w) (by simp; omega)).iff (isZero_take (by rw[hk.len]; omega))).case with⟨e,q⟩|⟨e,q⟩
  ·rw[e,ob,if_pos rfl,if_pos q,if_pos ⟨by omega,by rw[hk.len]; omega,vW _⟩,ob,wM,vO,qW (by simp; omega) (by simp; omega),ob]
  ·rw[e,ob,if_neg wE,if_neg q]) (by
  rintro s rfl;exact⟨_,rfl,by rw[vO]⟩)
 rw[g1,g2]
theorem kernel_same{p:Int}{w:Nat}(hp:IsP p){rows:List (List Int)}(hr:Rows p w rows)(hw:w≤1000)(hn:rows.length≤1000):∃K,F122 p rows.length rows=some K∧F125 p rows=some K∧Red p rows.length K:=by
 have hp1:1 < p:=by have:=hp.range; omega
 unfold F122 F125;rw[F122_1_eq hr hw hn,ob];simp only;by_cases h0:rows.length=0
 ·have:rows=[]:=wQ h0
  subst this;have e:(zU ([]:List (List Int)).length [])=[]:=by simp[zU]
  obtain⟨E,e1, -,e3⟩:=qK hp (rows:=[]) (w:=0+0) (fun r h=>(nomatch h)) (by omega) (by simp);have hE:E=[]:=wQ (by have:=zK e3.red; omega);subst hE;rw[e,e1,ob,if_pos (by simp),if_pos (by simp)];have:=F122_2_eq (w:=0) (n:=0) e3.red (by omega);have h2:forR 0 ((([]:List (List Int)).length:Nat):Int) (jr 0 []) (jL 0 []) []=some []:=this;rw[h2];exact⟨[],rfl,rfl,⟨fun r h=>(nomatch h),fun r h=>(nomatch h),.nil⟩⟩
 ·rw[if_neg h0,if_neg (by omega)]
  obtain⟨E,e1,e2,e3⟩:=qK hp (longs_ok hp1 hr) (by omega) (by rw[longs_len]; omega);have hpos:0 < rows.length:=by omega
  have hx0:=(hr _ (wC hpos)).len;have ht:=tails_red e3.red;rw[show(0:Int)=((0:Nat):Int) from rfl,qg hpos,ob,show((0:Nat):Int)=(0:Int) from rfl,e1,ob,F122_2_eq e3.red (by omega),ob,F125_1_eq hr hx0 hw hn,ob,e2,ob,F125_2_eq e3.red (by omega) hx0,ob,F133_self hp ht (by omega) (by have:=zK ht; omega),ob];exact⟨_,rfl,rfl,ht⟩
theorem RowOK.vec{p w:Int}{row:List Int}(h:RowOK p w row):qF p w.toNat row:=by
 have h1:=h.1;refine⟨by omega,fun j hj=>?_⟩;have hj':j < row.length:=by omega
 rw[qY hj'];have:=h.2 _ (wC hj');omega
theorem ValidC.dim{x:GComplex}(h:ValidC x){n:Nat}(hn:n < x.Dims.length):0≤x.Dims.getD n 0∧x.Dims.getD n 0≤8:=h.dims _ (jd hn 0)
theorem F99_at{x:GComplex}(hs:x.Dims.length≤1048576){n:Nat}(hn:n < x.Dims.length):F99 x (n:Int)=some (x.Dims.getD n 0):=by
 unfold F99;rw[qi (by omega) (by omega),ob,F54_eq,ob,if_pos (by simp; omega),qn hn 0,ob]
theorem F102_at{x:GComplex}(hs:x.Dims.length≤1048576){n:Nat}(hn:n < x.Dims.length):F102 x (n:Int)=some (x.Dims.getD n 0):=by
 unfold F102;rw[F86_eq hs,ob,F56_eq,ob,if_pos (by simp; omega),qn hn 0,ob]
theorem kernel_none{p:Int}(hp:IsP p){n:Nat}(hn:n≤1000):F122 p (n:Int) (List.replicate n [])=some (jT n):=by
 have hp1:1 < p:=by have:=hp.range; omega
 have hr:Rows p 0 (List.replicate n ([]:List Int)):=fun r hr=> by
  obtain⟨_,rfl⟩:=List.mem_replicate.1 hr;exact⟨rfl,fun j hj=> absurd hj (yK _)⟩
 have hl:(List.replicate n ([]:List Int)).length=n:=by simp
 have e0:=F122_1_eq hr (by omega) (by omega);rw[hl]at e0;have hlong:zU n (List.replicate n ([]:List Int))=jT n:=by
  unfold zU jT;refine yT fun i hi=>?_;have:i < n:=vC.1 hi;simp[qr,this]
 have hu:=units_red hp1 n;obtain⟨E,e1, -,e3⟩:=qK hp hu.ok (by omega) (by rw[units_len]; omega);have hE:=e3.same hp1 (jk.self hu);subst hE;have ht:zH 0 (jT n)=jT n:=by
  unfold zH;rw[List.filter_eq_self.2 (fun r _=> by simp)]
  conv=> rhs; rw[←List.map_id (jT n)]
  exact yT fun r _=> rfl
 have h2:=F122_2_eq (w:=0) (n:=n) (by rw[wP]; exact hu) (by omega);rw[ht]at h2;have h2':forR 0 ((jT n).length:Int) (jr 0 (jT n)) (jL 0 (jT n)) []=some (jT n):=h2;unfold F122;rw[e0,ob];have hz:(if n=0 then(0:Int)else((0:Nat):Int))=0:=by split <;> rfl
 simp only;rw[hz,hlong,e1,ob,h2',ob]
theorem F76_0{x:GComplex}(hs:x.Dims.length≤1048576)(hl:0 < x.Dims.length){n:Nat}(hn:x.Dims.getD 0 0=n)(hn8:n≤1000):F76 x 0=some (List.replicate n []):=by
 unfold F76;rw[qi (by omega) (by omega),ob,F54_eq,ob,if_neg (by simp)];have h99:F99 x 0=some (n:Int):=by have:=F99_at hs hl; rw[hn]at this; exact this
 obtain⟨t,g1,g2⟩:=qA (S:=F76_1_S x 0) (fun s=>(n - s.2).toNat) (fun s=> 0≤s.2∧s.2≤n∧s.1=List.replicate s.2.toNat []) (fun t=> t=List.replicate n []) (s:=([],0)) ⟨vW _,by omega,rfl⟩ (by
  rintro⟨l,j⟩ ⟨p1,p2,p3⟩;simp only at p1 p2 p3;subst p3;unfold F76_1_S;simp only;rw[h99,ob];by_cases hj:j < (n:Int)
  ·left
   rw[if_pos hj,qW (by simp; omega) (by simp; omega),ob,qi (by omega) (by omega),ob];refine⟨_,rfl,⟨by simp only; omega,by simp only; omega,?_⟩,by simp only; omega⟩;simp only;rw[show(j+1).toNat=j.toNat+1 from by omega,List.replicate_succ']
  ·right
   rw[if_neg hj];have:j.toNat=n:=by omega
   rw[this];exact⟨_,rfl,rfl⟩)
 rw[g1,ob,g2]
theorem forR_map{α β:Type}{l:List α}(g:α→β){B:Int→List β→Option (List β⊕List β)}{D:Int→List β→Option (List β)}{s0:List β}(hl:l.length≤1000000)
  (hB:∀ (k:Nat) (hk:k < l.length) (s:List β),s.length=s0.length+k→B k s=some (.inl (s++[g l[k]]))) (hD:∀i s,D i s=some s):forR 0 (l.length:Int) B D s0=some (s0++l.map g):=by
 have hlen:l.length < 4611686018427387904:=by omega
 obtain⟨t,g1,g2⟩:=qo (B:=B) (D:=D) l.length rfl hlen (fun i s=> s=s0++(l.map g).take i) (fun t=> t=s0++l.map g) (s:=s0) (by simp) (by
  rintro i s hi rfl;left;refine⟨_,hB i hi _ (by simp; omega),?_⟩;have:i < (l.map g).length:=by simpa using hi
  rw[←vK this];simp) (by
  rintro s rfl;exact⟨_,hD _ _,by rw[wL (by simp)]⟩)
 rw[g1,g2]
def coll{β:Type}(n:Nat)(f:Nat→List β):List β:=(List.range n).flatMap f
theorem qN{β:Type}(n:Nat)(f:Nat→List β):coll (n+1) f=coll n f++f n:=by
 unfold coll; rw[List.range_succ,List.flatMap_append]; simp
theorem coll_len{β:Type}{f:Nat→List β}(h:∀i,(f i).length≤1):∀n,(coll n f).length≤n
 |0=> by simp[coll]
 |n+1=> by rw[qN,wI]; have:=coll_len h n; have:=h n; omega
theorem jc{β:Type}{n:Nat}{f:Nat→List β}{b:β}:b∈coll n f↔∃i,i < n∧b∈f i:=by simp[coll]
theorem coll_map{β γ:Type}{n:Nat}{f:Nat→List β}(g:β→γ):(coll n f).map g=coll n fun i=>(f i).map g:=by simp[coll,List.map_flatMap]
theorem coll_congr{β:Type}{n:Nat}{f g:Nat→List β}(h:∀i,i < n→f i=g i):coll n f=coll n g:=by
 induction n with
 |zero=> rfl
 |succ n ih=> rw[qN,qN,ih fun i hi=> h i (by omega),h n (by omega)]
theorem forR_coll{β:Type}{n:Nat}(f:Nat→List β){B:Int→List β→Option (List β⊕List β)}{D:Int→List β→Option (List β)}(hn:n≤1000000)(h1:∀i,(f i).length≤1)
  (hB:∀ (i:Nat) (s:List β),i < n→s.length≤i→B i s=some (.inl (s++f i))) (hD:∀i s,D i s=some s):forR 0 (n:Int) B D []=some (coll n f):=by
 have hlen:n < 4611686018427387904:=by omega
 obtain⟨t,g1,g2⟩:=qo (B:=B) (D:=D) n rfl hlen (fun i s=> s=coll i f) (fun t=> t=coll n f) (s:=[]) (by simp[coll]) (by
  rintro i s hi rfl;left;exact⟨_,hB i _ hi (coll_len h1 i),(qN i f).symm⟩) (by
  rintro s rfl;exact⟨_,hD _ _,rfl⟩)
 rw[g1,g2]
theorem loopW_coll{β:Type}{n:Nat}(f:Nat→List β){S:List β×Int→Option ((List β×Int)⊕List β)}(h1:∀i,(f i).length≤1)
  (hB:∀ (i:Nat) (s:List β),i < n→s.length≤i→S (s,(i:Int))=some (.inl (s++f i,(i:Int)+1))) (hD:∀s:List β,S (s,(n:Int))=some (.inr s)):qB S ([],0)=some (coll n f):=by
 obtain⟨t,g1,g2⟩:=qA (S:=S) (fun s=>(n - s.2).toNat) (fun s=>∃i:Nat,s.2=i∧i≤n∧s.1=coll i f) (fun t=> t=coll n f) (s:=([],0)) ⟨0,rfl,vP _,by simp[coll]⟩ (by
  rintro⟨s,j⟩ ⟨i,p1,p2,p3⟩;simp only at p1 p3;subst p1; subst p3;by_cases hi:i < n
  ·left
   refine⟨_,hB i _ hi (coll_len h1 i),⟨i+1,by simp,hi,(qN i f).symm⟩,by simp only; omega⟩
  ·right
   have:i=n:=by omega
   subst this;exact⟨_,hD _,rfl⟩)
 rw[g1,g2]
def dm(x:GFiltered)(n:Nat):Nat:=(x.Complex.Dims.getD n 0).toNat
def lv(x:GFiltered)(n j:Nat):Int:=(x.Levels.getD n []).getD j 0
def mt(x:GFiltered)(n:Nat):List (List Int):=x.Complex.Maps.getD (n - 1) []
theorem jO{x:GFiltered}(h:zb x){n:Nat}(hn:n < x.Levels.length):x.Complex.Dims.getD n 0=(dm x n:Int)∧dm x n≤8∧(x.Levels.getD n []).length=dm x n:=by
 have h1:=h.vc.dim (n:=n) (by rw[←h.ll]; exact hn);have h2:=(h.lv n hn).1;unfold dm; omega
theorem F99_dm{x:GFiltered}(hs:qX x)(h:zb x){n:Nat}(hn:n < x.Levels.length):F99 x.Complex (n:Int)=some (dm x n:Int):=by
 rw[F99_at hs.c.d (by rw[←h.ll]; exact hn),(jO h hn).1]
theorem F102_dm{x:GFiltered}(hs:qX x)(h:zb x){n:Nat}(hn:n < x.Levels.length):F102 x.Complex (n:Int)=some (dm x n:Int):=by
 rw[F102_at hs.c.d (by rw[←h.ll]; exact hn),(jO h hn).1]
def qS(x:GFiltered)(n:Nat)(q:Int):List Int:=coll (dm x n) fun j=> if lv x n j≤q then [(j:Int)]else []
theorem one_len{c:Prop}[Decidable c]{β:Type}(a:β):(if c then [a]else []).length≤1:=by split <;> simp
theorem jZ{x:GFiltered}{n:Nat}{q:Int}:(qS x n q).length≤dm x n:=coll_len (fun j=> one_len _) _
theorem jw{x:GFiltered}{n:Nat}{q v:Int}:v∈qS x n q↔∃j,j < dm x n∧lv x n j≤q∧v=(j:Int):=by
 unfold qS;rw[jc];constructor
 ·rintro⟨j,h1,h2⟩
  split at h2
  ·rename_i hq; exact⟨j,h1,hq,by simpa using h2⟩
  ·simp at h2
 ·rintro⟨j,h1,h2,rfl⟩
  exact⟨j,h1,by simp[h2]⟩
theorem F202_eq{x:GFiltered}(hs:qX x)(h:zb x){n:Nat}(hn:n < x.Levels.length)(q:Int):F202 x (n:Int) q=some (qS x n q):=by
 unfold F202 qS;have hd:=jO h hn;have hll:=h.ll;rw[F86_eq hs.c.d,ob,F56_eq,ob,if_pos (by simp; omega),qn hn [],ob,hd.2.2,
  forR_coll (n:=dm x n) (B:=F202_1_B q (x.Levels.getD n [])) (D:=F202_1_D q (x.Levels.getD n [])) (fun j=> if lv x n j≤q then [(j:Int)]else []) (by omega) (fun j=> one_len _) (by
  intro i s hi hl;unfold F202_1_B;rw[qn (by rw[hd.2.2]; exact hi) 0,ob]
  change (if lv x n i≤q then _ else _)=_
  by_cases c:lv x n i≤q
  ·rw[if_pos c,if_pos c,qW (by simp; omega) (by simp; omega),ob]
  ·rw[if_neg c,if_neg c,vF]) (by intro i s; rfl),ob]
theorem F202_out{x:GFiltered}(hs:qX x)(h:zb x){n:Int}(hn:n < 0∨x.Levels.length≤n)(q:Int):F202 x n q=some []:=by
 unfold F202;have hll:=h.ll;rw[F86_eq hs.c.d,ob,F56_eq,ob,if_neg (by simp; omega)]
theorem F203_eq{l:List Int}(hl:l.length≤1000000)(v:Int):F203 l v=some (decide (v∈l)):=by
 unfold F203 F211;have hlen:l.length < 4611686018427387904:=by omega
 obtain⟨t,g1,g2⟩:=qo (B:=F211_1_B l v) (D:=F211_1_D l v) l.length rfl hlen (fun i _=> v∉l.take i) (fun t=>(t= .inl ()∧v∉l)∨∃m:Nat,t= .inr (m:Int)∧v∈l) (s:=()) (by simp) (by
  rintro i _ hi hI;unfold F211_1_B;rw[qg hi,ob];by_cases q:v=l[i]
  ·right
   rw[if_pos q];exact⟨_,rfl,.inr ⟨i,rfl,by rw[q]; exact wC hi⟩⟩
  ·left
   rw[if_neg q];refine⟨(),rfl,fun hr=>?_⟩;rw[←vK hi]at hr;rcases wO.1 hr with h|h
   ·exact hI h
   ·exact q (by simpa using h)) (by
  rintro _ hI;rw[vO]at hI;exact⟨_,rfl,.inl ⟨rfl,hI⟩⟩)
 rw[g1,ob];rcases g2 with⟨rfl,h⟩|⟨m,rfl,h⟩
 ·simp[h]
 ·simp[h]
def farL(x:GFiltered)(n:Nat)(t:Int):List Int:=coll (if n=0 then 0 else dm x (n - 1)) fun j=> if t < lv x (n - 1) j then [(j:Int)]else []
theorem mem_farL{x:GFiltered}{n:Nat}{t v:Int}(h:v∈farL x n t):n≠0∧∃j,j < dm x (n - 1)∧v=(j:Int):=by
 unfold farL at h;rw[jc]at h;obtain⟨j,h1,h2⟩:=h;split at h1
 ·omega
 ·rename_i hn
  split at h2
  ·exact⟨hn,j,h1,by simpa using h2⟩
  ·simp at h2
theorem farL_len{x:GFiltered}(h:zb x){n:Nat}(hn:n≤x.Levels.length){t:Int}:(farL x n t).length≤8:=by
 have h1:(farL x n t).length≤if n=0 then 0 else dm x (n - 1):=coll_len (fun j=> one_len _) _
 split at h1
 ·omega
 ·have:=jO h (n:=n - 1) (by omega)
  omega
theorem F184_1_eq{x:GFiltered}(hs:qX x)(h:zb x){n:Nat}(hn:n≤x.Levels.length){r q:Int}(hr: -100≤r∧r≤100)(hq: -100≤q∧q≤100)(k:List Int):
  ∃d,(chk ((n:Int) - 1))=some ((n:Int) - 1)∧F102 x.Complex ((n:Int) - 1)=some d∧forR 0 d (F184_1_B x r (n:Int) q k d) (F184_1_D x r (n:Int) q k d) []=some (farL x n (q - r)):=by
 have hll:=hs.l;have hl:=h.ll;rcases Nat.eq_zero_or_pos n with h0|h0
 ·subst h0
  refine⟨0,qi (by omega) (by omega),?_,?_⟩
  ·unfold F102
   rw[F86_eq hs.c.d,ob,F56_eq,ob,if_neg (by simp)]
  ·rfl
 ·obtain⟨m,rfl⟩:∃m,n=m+1:=⟨n - 1,by omega⟩
  have hm:m < x.Levels.length:=by omega
  have hd:=jO h hm;have e:((m+1:Nat):Int) - 1=(m:Int):=by omega
  refine⟨(dm x m:Int),qi (by omega) (by omega),by rw[e,F102_dm hs h hm],?_⟩;have hk:=jZ (x:=x) (n:=m) (q:=q - r);unfold farL;rw[if_neg (by omega),Nat.add_sub_cancel];refine forR_coll _ (by omega) (fun j=> one_len _) (fun i s hi hls=>?_) (by intro i s; rfl);unfold F184_1_B;rw[qi (by omega) (by omega),ob,qi (by omega) (by omega),ob,e,F202_eq hs h hm,ob,F203_eq (by omega),ob];by_cases c:q - r < lv x m i
  ·rw[if_neg (by simp only[decide_eq_true_eq]; rw[jw]; rintro⟨j, -,h2,h3⟩; have:i=j:=(by omega); subst this; omega),if_pos c,qW (by simp; omega) (by simp; omega),ob]
  ·rw[if_pos (by simp only[decide_eq_true_eq]; rw[jw]; exact⟨i,hi,by omega,rfl⟩),if_neg c,vF]
def rowF(x:GFiltered)(n:Nat)(t:Int)(i:Int):List Int:=(farL x n t).map fun j=> nth (qr (mt x n) i.toNat) j.toNat
def rowsF(x:GFiltered)(n:Nat)(r q:Int):List (List Int):=(qS x n q).map (rowF x n (q - r))
theorem mt_ok{x:GFiltered}(h:zb x){m:Nat}(hm:m+1 < x.Levels.length):m < x.Complex.Maps.length∧(mt x (m+1)).length=dm x (m+1)∧Rows x.Complex.Prime (dm x m) (mt x (m+1)):=by
 have hml:=h.vc.ml;have hl:=h.ll;have h1:m < x.Complex.Maps.length:=by omega
 have ht:=h.vc.tab m h1;have hd:=jO h hm;refine⟨h1,?_,fun r hr=>(ht.2 r hr).vec⟩;have h2:=ht.1;rw[hd.1]at h2;show(x.Complex.Maps.getD (m+1 - 1) []).length=_;rw[Nat.add_sub_cancel]; omega
theorem keep_get{x:GFiltered}{n:Nat}{q:Int}{k:Nat}(hk:k < (qS x n q).length):∃i,i < dm x n∧(qS x n q)[k]=(i:Int):=by
 obtain⟨i,h1, -,h2⟩:=jw.1 (wC hk);exact⟨i,h1,h2⟩
theorem far_get{x:GFiltered}{n:Nat}{t:Int}{k:Nat}(hk:k < (farL x n t).length):n≠0∧∃j,j < dm x (n - 1)∧(farL x n t)[k]=(j:Int):=mem_farL (wC hk)
theorem nth_map{α:Type}{l:List α}{g:α→Int}{j:Nat}(hj:j < l.length):nth (l.map g) j=g l[j]:=by simp[nth,hj]
theorem rowsF_ok{x:GFiltered}(h:zb x){n:Nat}(hn:n≤x.Levels.length)(r q:Int)(hk:n=x.Levels.length→qS x n q=[]):Rows x.Complex.Prime (farL x n (q - r)).length (rowsF x n r q):=by
 intro row hrow;unfold rowsF at hrow;obtain⟨v,hv,rfl⟩:=wV.1 hrow;obtain⟨i,hi, -,rfl⟩:=jw.1 hv;have hn':n < x.Levels.length:=by
  rcases wS n x.Levels.length with c|c
  ·exact c
  ·rw[hk (by omega)]at hv; simp at hv
 refine⟨by simp[rowF],fun j hj=>?_⟩;unfold rowF;rw[nth_map hj];obtain⟨n0,c,hc,hce⟩:=far_get hj;rw[hce,wM,wM];obtain⟨m,rfl⟩:∃m,n=m+1:=⟨n - 1,by omega⟩;obtain⟨-,h2,h3⟩:=mt_ok h hn';have h4:=h3 _ (zO (show i < (mt x (m+1)).length by omega));exact h4.rng c (by simpa using hc)
theorem F184_2_eq{x:GFiltered}(hs:qX x)(h:zb x){n:Nat}(hn:n < x.Levels.length)(r q:Int):
  forR 0 ((qS x n q).length:Int) (F184_2_B x (n:Int) (qS x n q) (farL x n (q - r))) (F184_2_D x (n:Int) (qS x n q) (farL x n (q - r))) []=some (rowsF x n r q):=by
 have hk:=jZ (x:=x) (n:=n) (q:=q);have hd:=jO h hn;have hfl:=farL_len h (n:=n) (by omega) (t:=q - r);rw[forR_map (rowF x n (q - r)) (by omega) (fun k hk s hsl=> by
  obtain⟨i,hi,hie⟩:=keep_get hk;unfold F184_2_B;rw[qg hk,ob,hie,forR_map (l:=farL x n (q - r)) (fun j=> nth (qr (mt x n) i) j.toNat) (by omega) (fun c hc s2 hs2=> by
   obtain⟨n0,j,hj,hje⟩:=far_get hc;obtain⟨m,rfl⟩:∃m,n=m+1:=⟨n - 1,by omega⟩;rw[Nat.add_sub_cancel]at hj;have hsl0:=hs.l;obtain⟨h1,h2,h3⟩:=mt_ok h hn;have hrl:=(h3 _ (zO (show i < (mt x (m+1)).length by omega))).len;have e:((m+1:Nat):Int) - 1=(m:Int):=by omega
   unfold F184_3_B;rw[qg hc,ob,qi (by omega) (by omega),ob,e,qn h1 [],ob,show x.Complex.Maps.getD m []=mt x (m+1) from rfl,qn (show i < (mt x (m+1)).length by omega) [],ob,hje,qn (show j < ((mt x (m+1)).getD i []).length by unfold qr at hrl; omega) 0,ob,qW (by simp; simp at hs2; omega) (by simp; simp at hs2; omega),ob];rfl) (by intro i s; rfl),ob,vS,qW (by simp; simp at hsl; omega) (by simp; simp at hsl; omega),ob]
  rfl) (by intro i s; rfl)]
 rfl
def jS(keep:List Int)(row:List Int)(w:Nat):Nat→List Int
 |0=> zv w
 |k+1=>(jS keep row w k).set (keep.getD k 0).toNat (nth row k)
theorem zG{keep row:List Int}{w:Nat}:∀k,(jS keep row w k).length=w
 |0=> by simp[jS,zv]
 |k+1=> by rw[jS,vA]; exact zG k
theorem nth_set{l:List Int}{i:Nat}{v:Int}(j:Nat):nth (l.set i v) j=if i=j∧j < l.length then v else nth l j:=by
 unfold nth;rw[List.getD_eq_getElem?_getD,List.getElem?_set,List.getD_eq_getElem?_getD];by_cases h1:i=j
 ·subst h1
  by_cases h2:i < l.length
  ·simp[h2]
  ·simp[h2]
 ·simp[h1]
theorem wideN_ok{p:Int}(hp:0 < p){keep row:List Int}{w m:Nat}(hr:qF p m row):∀k,k≤m→qF p w (jS keep row w k)
 |0,_=> zS hp w
 |k+1,hk=>⟨zG _,fun j hj=> by
   have ih:=(wideN_ok hp (keep:=keep) hr k (by omega)).rng j hj;rw[jS,nth_set];split
   ·exact hr.rng k (by omega)
   ·exact ih⟩
def wides(keep:List Int)(w:Nat)(K:List (List Int)):List (List Int):=K.map fun row=> jS keep row w keep.length
theorem wide_loop{keep row:List Int}{w:Nat}(hk:keep.length≤1000000)(hv:∀v∈keep,0≤v∧v < w){B:Int→List Int→Option (List Int⊕List Int)}{D:Int→List Int→Option (List Int)}
  (hB:∀ (k:Nat) (s:List Int),k < keep.length→s.length=w→B k s=some (.inl (s.set (keep.getD k 0).toNat (nth row k)))) (hD:∀i s,D i s=some s):forR 0 (keep.length:Int) B D (zv w)=some (jS keep row w keep.length):=by
 have hlen:keep.length < 4611686018427387904:=by omega
 obtain⟨t,g1,g2⟩:=qo (B:=B) (D:=D) keep.length rfl hlen (fun i s=> s=jS keep row w i) (fun t=> t=jS keep row w keep.length) (s:=zv w) rfl (by
  rintro i s hi rfl;exact .inl ⟨_,hB i _ hi (zG i),rfl⟩) (by
  rintro s rfl;exact⟨_,hD _ _,rfl⟩)
 rw[g1,g2]
theorem F184_4_eq{x:GFiltered}(hs:qX x)(h:zb x){n:Nat}(hn:n < x.Levels.length){keep far:List Int}{K:List (List Int)}(hk:keep.length≤1000)(hK:K.length≤1000)(hv:∀v∈keep,0≤v∧v < dm x n)(hr:∀r∈K,r.length=keep.length):
  forR 0 (K.length:Int) (F184_4_B x (n:Int) keep far K) (F184_4_D x (n:Int) keep far K) []=some (wides keep (dm x n) K):=by
 have hd:=jO h hn;rw[forR_map (fun row=> jS keep row (dm x n) keep.length) (by omega) (fun k hk2 s hsl=> by
  have hrl:=hr _ (wC hk2);unfold F184_4_B;rw[qg hk2,ob,F102_dm hs h hn,ob,mkL_ok (dm x n) rfl (by omega) (by omega),ob]
  change (forR 0 (keep.length:Int) _ _ (zv (dm x n))).bind _=_
  rw[wide_loop (row:=K[k]) (by omega) hv (by
   intro j s2 hj hs2;have hvj:=hv _ (jd hj 0);obtain⟨c,hc⟩:∃c:Nat,keep.getD j 0=c:=⟨(keep.getD j 0).toNat,by omega⟩;unfold F184_5_B;rw[qn hj 0,ob,qg (show j < K[k].length by omega),ob,hc,qg (show c < s2.length by omega),ob,qU (show c < s2.length by omega),ob,wM,qY (by omega)]) (by intro i s; rfl),ob,qW (by simp; simp at hsl; omega) (by simp; simp at hsl; omega),ob]) (by intro i s; rfl)]
 rfl
theorem F76_at{x:GFiltered}(hs:qX x)(h:zb x){n:Nat}(hn:n < x.Levels.length):∃m,F76 x.Complex (n:Int)=some m∧(n≠0→m=mt x n):=by
 have hl:=h.ll;have hd:=jO h hn;rcases Nat.eq_zero_or_pos n with h0|h0
 ·subst h0
  exact⟨_,F76_0 hs.c.d (by omega) hd.1 (by omega),fun h=> absurd rfl h⟩
 ·obtain⟨m,rfl⟩:∃m,n=m+1:=⟨n - 1,by omega⟩
  exact⟨_,F76_eq hs.c.d (by omega) (by have:=h.vc.ml; omega),fun _=> rfl⟩
theorem FM26_m{x:GFiltered}(h:qX x):∃t,FM26 x 1=some t∧¬t.2 < 0:=by
 obtain⟨y,m,e1,e2,e3, -⟩:=FM20_m h.c (k:=1) (by decide) (by decide);obtain⟨l,j,g1,g2⟩:=F52_mk h.l h.r (k:=m) (by omega) (by omega);have g3:=g2.2.1;unfold FM26 FM52;rw[e1,ob,g1,ob];exact⟨_,rfl,by simp only; omega⟩
theorem kernel_full{p:Int}{w:Nat}(hp:IsP p){rows:List (List Int)}(hr:Rows p w rows)(hw:w≤1000)(hn:rows.length≤1000):∃K,F122 p rows.length rows=some K∧F125 p rows=some K∧Red p rows.length K∧∀c,Sp p rows.length K c↔qF p rows.length c∧∀j,j < w→Cg p (dot (nth c) rows rows.length j) 0:=by
 have hp1:1 < p:=by have:=hp.range; omega
 unfold F122 F125;rw[F122_1_eq hr hw hn,ob];simp only;by_cases h0:rows.length=0
 ·have:rows=[]:=wQ h0
  subst this;have e:(zU ([]:List (List Int)).length [])=[]:=by simp[zU]
  obtain⟨E,e1, -,e3⟩:=qK hp (rows:=[]) (w:=0+0) (fun r h=>(nomatch h)) (by omega) (by simp);have hE:E=[]:=wQ (by have:=zK e3.red; omega);subst hE;rw[e,e1,ob,if_pos (by simp),if_pos (by simp)];have:=F122_2_eq (w:=0) (n:=0) e3.red (by omega);have h2:forR 0 ((([]:List (List Int)).length:Nat):Int) (jr 0 []) (jL 0 []) []=some []:=this;rw[h2];refine⟨[],rfl,rfl,⟨fun r h=>(nomatch h),fun r h=>(nomatch h),.nil⟩,fun c=>⟨fun hc=>⟨hc.ok (by omega) (fun r h=> absurd h List.not_mem_nil),fun j _=> .refl _ _⟩,fun hc=>?_⟩⟩;have:c=zv 0:=wQ hc.1.len;rw[this];exact .zero
 ·rw[if_neg h0,if_neg (by omega)]
  obtain⟨E,e1,e2,e3⟩:=qK hp (longs_ok hp1 hr) (by omega) (by rw[longs_len]; omega);have hpos:0 < rows.length:=by omega
  have hx0:=(hr _ (wC hpos)).len;have ht:=tails_red e3.red;rw[show(0:Int)=((0:Nat):Int) from rfl,qg hpos,ob,show((0:Nat):Int)=(0:Int) from rfl,e1,ob,F122_2_eq e3.red (by omega),ob,F125_1_eq hr hx0 hw hn,ob,e2,ob,F125_2_eq e3.red (by omega) hx0,ob,F133_self hp ht (by omega) (by have:=zK ht; omega),ob];exact⟨_,rfl,rfl,ht,fun c=> kernel_sp hp1 hr e3⟩
abbrev kf(c:Nat→Prop)[DecidablePred c](i:Nat):List Int:=if c i then [(i:Int)]else []
theorem coll_get{c:Nat→Prop}[DecidablePred c]:∀ {n k:Nat},k < (coll n (kf c)).length→∃i,i < n∧c i∧(coll n (kf c)).getD k 0=(i:Int)∧(coll i (kf c)).length=k
 |0,k,h=> absurd h (by simp[coll])
 |n+1,k,h=> by
  rw[qN]at h ⊢;by_cases q:k < (coll n (kf c)).length
  ·obtain⟨i,h1,h2,h3,h4⟩:=coll_get q
   refine⟨i,by omega,h2,?_,h4⟩;rw[←h3,List.getD_eq_getElem?_getD,List.getElem?_append_left q,List.getD_eq_getElem?_getD]
  ·by_cases hc:c n
   ·have e:kf c n=[(n:Int)]:=if_pos hc
    rw[e]at h ⊢;have hk:k=(coll n (kf c)).length:=by simp at h; omega
    subst hk;exact⟨n,by omega,hc,by rw[List.getD_eq_getElem?_getD]; simp,rfl⟩
   ·have e:kf c n=[]:=if_neg hc
    rw[e,vF]at h;exact absurd h q
theorem coll_at{c:Nat→Prop}[DecidablePred c]{i:Nat}(hc:c i):∀ {n:Nat},i < n→(coll i (kf c)).length < (coll n (kf c)).length∧(coll n (kf c)).getD (coll i (kf c)).length 0=(i:Int)
 |0,h=> absurd h (yK _)
 |n+1,h=> by
  rw[qN];by_cases q:i=n
  ·subst q
   have e:kf c i=[(i:Int)]:=if_pos hc;rw[e];exact⟨by simp,by rw[List.getD_eq_getElem?_getD]; simp⟩
  ·obtain⟨h1,h2⟩:=coll_at hc (n:=n) (by omega)
   refine⟨by rw[wI]; omega,?_⟩;rw[←h2,List.getD_eq_getElem?_getD,List.getElem?_append_left h1,List.getD_eq_getElem?_getD]
theorem wide_at{w:Nat}{c:Nat→Prop}[DecidablePred c]{cc:List Int}{i:Nat}(hi:i < w):∀ {k:Nat},k≤(coll w (kf c)).length→nth (jS (coll w (kf c)) cc w k) i=if c i∧(coll i (kf c)).length < k then nth cc (coll i (kf c)).length else 0
 |0,_=> by rw[jS,zq,if_neg (by omega)]
 |k+1,hk=> by
  obtain⟨i',h1,h2,h3,h4⟩:=coll_get (c:=c) (n:=w) (k:=k) (by omega);rw[jS,nth_set,h3,wM,zG,wide_at hi (by omega)];by_cases q:i'=i
  ·subst q
   rw[if_pos ⟨rfl,hi⟩,if_pos ⟨h2,by omega⟩,h4]
  ·rw[if_neg (by omega)]
   by_cases e:c i∧(coll i (kf c)).length < k
   ·rw[if_pos e,if_pos ⟨e.1,by omega⟩]
   ·rw[if_neg e,if_neg]
    rintro⟨e1,e2⟩;have e3:(coll i (kf c)).length=k:=by
     have:¬(coll i (kf c)).length < k:=fun q=> e ⟨e1,q⟩;omega
    have h5:=(coll_at e1 hi).2;rw[e3,h3]at h5;omega
theorem wide_lin{p:Int}{w:Nat}{c:Nat→Prop}[DecidablePred c](hp:0 < p):Lin p (coll w (kf c)).length w fun cc=> jS (coll w (kf c)) cc w (coll w (kf c)).length:=by
 refine⟨fun u hu=> wideN_ok hp hu _ (wD _),fun u v k hu hv=>?_⟩;refine nth_ext (by simp[subv,zG]) fun i hi=>?_;rw[zG]at hi;rw[wide_at hi (wD _),zk (zG _) (zG _) hi,wide_at hi (wD _),wide_at hi (wD _)];by_cases e:c i∧(coll i (kf c)).length < (coll w (kf c)).length
 ·rw[if_pos e,if_pos e,if_pos e,zk hu.len hv.len e.2]
 ·rw[if_neg e,if_neg e,if_neg e]; simp
theorem dot_kept{c:Nat→Prop}[DecidablePred c]{g:Nat→Int}{m:List (List Int)}{j n:Nat}:∀ {d:Nat},d≤n→dot (fun i=> if c i then g (coll i (kf c)).length else 0) m d j=sumI (fun k=> g k*nth (qr m ((coll n (kf c)).getD k 0).toNat) j) (coll d (kf c)).length
 |0,_=> by simp[dot,sumI,coll]
 |d+1,hd=> by
  have ih:=dot_kept (c:=c) (g:=g) (m:=m) (j:=j) (n:=n) (d:=d) (by omega);unfold dot at ih ⊢;show sumI _ d+_=_;rw[ih,qN];simp only;by_cases hc:c d
  ·have e:kf c d=[(d:Int)]:=if_pos hc
   have h2:=(coll_at hc (n:=n) (by omega)).2;rw[e,if_pos hc,wI,List.length_singleton];show _=sumI _ _+_;simp only;rw[h2,wM]
  ·have e:kf c d=[]:=if_neg hc
   rw[e,if_neg hc,vF]; simp
def NearP(x:GFiltered)(r:Int)(n:Nat)(q:Int)(v:List Int):Prop:=
 qF x.Complex.Prime (dm x n) v∧(∀i,i < dm x n→q < lv x n i→nth v i=0)∧(n≠0→∀j,j < dm x (n - 1)→q - r < lv x (n - 1) j→Cg x.Complex.Prime (dot (nth v) (mt x n) (dm x n) j) 0)
theorem near_sp{x:GFiltered}(hs:qX x)(h:zb x){n:Nat}(hn:n < x.Levels.length){r q:Int}(hr: -100≤r∧r≤100)(hq: -100≤q∧q≤100){N:List (List Int)}(hN:F184 x r (n:Int) q=some N):∀v,Sp x.Complex.Prime (dm x n) N v↔NearP x r n q v:=by
 have hp:=h.vc.p;have hp0:0 < x.Complex.Prime:=by have:=hp.range; omega
 have hd:=jO h hn;have hk:=jZ (x:=x) (n:=n) (q:=q);have hf:=farL_len h (n:=n) (by omega) (t:=q - r);obtain⟨d,c1,c2,c3⟩:=F184_1_eq hs h (n:=n) (by omega) hr hq (qS x n q);have hrl:(rowsF x n r q).length=(qS x n q).length:=by simp[rowsF]
 have hrows:=rowsF_ok h (n:=n) (by omega) r q (fun e=> by omega);obtain⟨K,k1,k2,k3,k4⟩:=kernel_full hp hrows (by omega) (by omega);rw[hrl]at k1 k3 k4;have hKl:=zK k3;have hv:∀v∈qS x n q,0≤v∧v < dm x n:=fun v hv=> by
  obtain⟨j,h1, -,rfl⟩:=jw.1 hv;omega
 have hKr:∀r∈K,r.length=(qS x n q).length:=fun r hr=>(k3.ok r hr).len;have hw:Rows x.Complex.Prime (dm x n) (wides (qS x n q) (dm x n) K):=fun r hr=> by
  obtain⟨row,hrow,rfl⟩:=wV.1 hr;exact wideN_ok hp0 (k3.ok row hrow) _ (wD _)
 have hwl:(wides (qS x n q) (dm x n) K).length=K.length:=by simp[wides]
 obtain⟨N', -,n2,n3⟩:=qK hp hw (by omega) (by omega);have e:F184 x r (n:Int) q=some N':=by
  unfold F184;rw[F202_eq hs h hn,ob,c1,ob,c2,ob,c3,ob,F184_2_eq hs h hn,ob,k2,ob,F184_4_eq hs h hn (by omega) (by omega) hv hKr,ob,n2,ob]
 rw[hN]at e;obtain rfl:=wA e;have hL:Lin x.Complex.Prime (qS x n q).length (dm x n) fun cc=> jS (qS x n q) cc (dm x n) (qS x n q).length:=wide_lin (c:=fun i=> lv x n i≤q) hp0;have hat:∀ (cc:List Int) (i:Nat),i < dm x n→nth (jS (qS x n q) cc (dm x n) (qS x n q).length) i=if lv x n i≤q then nth cc (coll i (kf fun i=> lv x n i≤q)).length else 0:=fun cc i hi=> by
  have:=wide_at (c:=fun i=> lv x n i≤q) (cc:=cc) hi (wD _);refine this.trans ?_;by_cases q1:lv x n i≤q
  ·rw[if_pos ⟨q1,(coll_at (c:=fun i=> lv x n i≤q) q1 hi).1⟩,if_pos q1]
  ·rw[if_neg (fun e=> q1 e.1),if_neg q1]
 -- the numbers at places far below
 have hdot:∀ (cc:List Int) (jj:Nat) (hjj:jj < (farL x n (q - r)).length),dot (nth (jS (qS x n q) cc (dm x n) (qS x n q).length)) (mt x n) (dm x n) ((farL x n (q - r))[jj]).toNat=dot (nth cc) (rowsF x n r q) (qS x n q).length jj:=fun cc jj hjj=> by
  have h1:dot (nth (jS (qS x n q) cc (dm x n) (qS x n q).length)) (mt x n) (dm x n) ((farL x n (q - r))[jj]).toNat=dot (fun i=> if lv x n i≤q then nth cc (coll i (kf fun i=> lv x n i≤q)).length else 0) (mt x n) (dm x n) ((farL x n (q - r))[jj]).toNat:=zz fun i hi=> by rw[hat cc i hi]
  rw[h1,dot_kept (c:=fun i=> lv x n i≤q) (g:=nth cc) (wD (dm x n))];refine zz fun k hk2=>?_;have hk3:k < (qS x n q).length:=hk2;have e1:qr (rowsF x n r q) k=rowF x n (q - r) (qS x n q)[k]:=by rw[qG (by rw[hrl]; exact hk3)]; simp[rowsF]
  have e2:(coll (dm x n) (kf fun i=> lv x n i≤q)).getD k 0=(qS x n q)[k]:=by
   change (qS x n q).getD k 0=_
   simp[hk3]
  rw[e1,e2];unfold rowF;rw[nth_map hjj]
 intro v;rw[n3.sp v];constructor
 ·intro hv'
  obtain⟨cc,s1,rfl⟩:=hL.lift hp0 (R:=K) k3.ok hv';obtain⟨s2,s3⟩:=(k4 cc).1 s1;refine⟨hL.ok cc s2,fun i hi hlt=>?_,fun n0 j hj hlt=>?_⟩
  ·rw[hat cc i hi,if_neg (by omega)]
  ·have hfe:farL x n (q - r)=coll (dm x (n - 1)) (kf fun j=> q - r < lv x (n - 1) j):=by unfold farL; rw[if_neg n0]
   obtain⟨f1,f2⟩:=coll_at (c:=fun j=> q - r < lv x (n - 1) j) hlt hj;rw[←hfe]at f1 f2;have f3:=s3 _ f1;rw[←hdot cc _ f1]at f3;have f4:(farL x n (q - r))[(coll j (kf fun j=> q - r < lv x (n - 1) j)).length]=(j:Int):=by
    rw[←f2]; simp[f1]
   rwa[f4,wM]at f3
 ·rintro⟨v1,v2,v3⟩
  let cc:=(qS x n q).map fun i=> nth v i.toNat
  have hcc:qF x.Complex.Prime (qS x n q).length cc:=⟨by simp[cc],fun k hk2=> by
   obtain⟨i,hi,hie⟩:=keep_get hk2;rw[nth_map hk2,hie,wM];exact v1.rng i hi⟩
  have hcv:jS (qS x n q) cc (dm x n) (qS x n q).length=v:=nth_ext (by rw[zG,v1.len]) fun i hi=> by
   rw[zG]at hi;rw[hat cc i hi];by_cases q1:lv x n i≤q
   ·obtain⟨f1,f2⟩:=coll_at (c:=fun i=> lv x n i≤q) q1 hi
    have f1':(coll i (kf fun i=> lv x n i≤q)).length < (qS x n q).length:=f1;have f2':(qS x n q)[(coll i (kf fun i=> lv x n i≤q)).length]=(i:Int):=by
     have:(qS x n q).getD (coll i (kf fun i=> lv x n i≤q)).length 0=(i:Int):=f2;rw[←this]; simp[f1']
    rw[if_pos q1,nth_map f1',f2',wM]
   ·rw[if_neg q1,v2 i hi (by omega)]
  have hS:Sp x.Complex.Prime (qS x n q).length K cc:=(k4 cc).2 ⟨hcc,fun jj hjj=> by
   rw[←hdot cc jj hjj,hcv];obtain⟨n0,j,hj,hje⟩:=far_get hjj;have hjm:=wC hjj;have hlt:q - r < lv x (n - 1) j:=by
    rw[hje]at hjm;unfold farL at hjm;rw[if_neg n0,jc]at hjm;obtain⟨j2, -,h2⟩:=hjm;split at h2
    ·rename_i q2
     have h3:(j:Int)=(j2:Int):=by simpa using h2
     have:j=j2:=by omega
     subst this; exact q2
    ·simp at h2
   rw[hje,wM];exact v3 n0 j hj hlt⟩
  have:=hL.sp hp0 (R:=K) k3.ok hS;rw[hcv]at this;exact this
theorem lin_at{p:Int}{n:Nat}{v:List Int}{m:List (List Int)}(H:LinOK p n v m){j:Nat}(hj:j < n):Cg p (nth (lin p n v m) j) (dot (nth v) m v.length j):=by
 have key:∀i,i≤v.length→Cg p (nth (linN p n v m i) j) (dot (nth v) m i j):=by
  intro i;induction i with
  |zero=> intro _; simp only[linN]; rw[show nth (List.replicate n (0:Int)) j=0 from zq n j]; exact .refl _ _
  |succ i ih=>
   intro hi;obtain⟨h1,h2⟩:=linN_ok H i (by omega);have hm:i < m.length:=by have:=H.hl; omega
   have hr:=H.hr _ (wC hm);have e1:v.getD i 0=v[i]:=by simp[show i < v.length by omega]
   have e2:m.getD i []=m[i]:=by simp[hm]
   have hx:=H.hv _ (wC (show i < v.length by omega));have ho:=h2 _ (wC (show j < (linN p n v m i).length by omega));have hy:=hr.2 _ (wC (show j < m[i].length by omega));obtain⟨-, -,t1, -⟩:=small_mul H.hp hx hy ho;have e3:nth (linN p n v m (i+1)) j=((linN p n v m i)[j]+v[i]*(m[i])[j]).tmod p:=by
    simp only[linN,e1,e2];rw[qY (by unfold addRow; rw[List.length_zipWith,h1,hr.1]; omega)];simp[addRow]
   have h0:0≤(linN p n v m i)[j]+v[i]*(m[i])[j]:=by have:=Int.mul_nonneg hx.1 hy.1; omega
   rw[e3,Int.tmod_eq_emod_of_nonneg h0];refine(Cg.mod _ _).trans ?_;show Cg p _ (sumI _ (i+1));unfold sumI;refine .add ?_ ?_
   ·have:=ih (by omega)
    rwa[qY (by omega)]at this
   ·rw[qY (show i < v.length by omega),qG hm,qY (show j < m[i].length by omega)]; exact .refl _ _
 exact key v.length (wD _)
theorem units_sp{p:Int}(hp:1 < p){n:Nat}{v:List Int}(hv:qF p n v):Sp p n (jT n) v:=by
 have hp0:0 < p:=by omega
 have hu:=units_red hp n;refine(rest_zero hp0 hu hv).1 ((xj hp0 hu.ok hv).ext (zS hp0 n) fun j hj=>?_);have hm:je n j∈jT n:=wV.2 ⟨j,vC.2 hj,rfl⟩;have:=rest_lead hp0 hu hv _ hm;rw[ld_unit hj]at this;rw[this,zq]; exact .refl _ _
def LTells(o:Option (Unit⊕(Unit⊕Bool)))(P:Prop):Prop:=∃b:Bool,o=some (if b=true then .inl ()else .inr (.inr false))∧(b=true↔P)
theorem LTells.iff{o:Option (Unit⊕(Unit⊕Bool))}{P Q:Prop}(h:LTells o P)(e:P↔Q):LTells o Q:=by
 obtain⟨b,h1,h2⟩:=h; exact⟨b,h1,h2.trans e⟩
def WTells(o:Option (Int⊕(Unit⊕Bool)))(i:Int)(P:Prop):Prop:=∃b:Bool,o=some (if b=true then .inl (i+1)else .inr (.inr false))∧(b=true↔P)
theorem WTells.iff{o:Option (Int⊕(Unit⊕Bool))}{i:Int}{P Q:Prop}(h:WTells o i P)(e:P↔Q):WTells o i Q:=by
 obtain⟨b,h1,h2⟩:=h; exact⟨b,h1,h2.trans e⟩
def hN(c:ji)(n:Nat):Nat:=(c.Up.getD n []).length
structure PT (s0 ms:T3s) (φ:Nat→Nat→Nat→Nat×Nat×Nat) (val:Nat→Nat→Nat→Int) (D:Nat→Nat→Nat→Prop) (s:T3s):Prop where
 shp:Shp s s0
 at':∀k i j,InT ms k i j→(D k i j→numAt s (φ k i j).1 (φ k i j).2.1 (φ k i j).2.2=val k i j)∧(¬D k i j→numAt s (φ k i j).1 (φ k i j).2.1 (φ k i j).2.2=numAt s0 (φ k i j).1 (φ k i j).2.1 (φ k i j).2.2)
 out:∀a b c,InT s0 a b c→(∀k i j,InT ms k i j→φ k i j≠(a,b,c))→numAt s a b c=numAt s0 a b c
theorem PT.zero{s0 ms:T3s}{φ:Nat→Nat→Nat→Nat×Nat×Nat}{val:Nat→Nat→Nat→Int}:PT s0 ms φ val (fun _ _ _=> False) s0:=⟨.refl _,fun k i j _=>⟨fun x=> x.elim,fun _=> rfl⟩,fun _ _ _ _ _=> rfl⟩
def CycP(x:GFiltered)(n:Nat)(q:Int)(v:List Int):Prop:=
 qF x.Complex.Prime (dm x n) v∧(∀i,i < dm x n→q < lv x n i→nth v i=0)∧(n≠0→∀j,j < dm x (n - 1)→Cg x.Complex.Prime (dot (nth v) (mt x n) (dm x n) j) 0)
theorem lv_rng{x:GFiltered}(h:zb x){n i:Nat}(hn:n < x.Levels.length)(hi:i < dm x n):0≤lv x n i∧lv x n i≤5:=by
 have hd:=jO h hn;unfold lv;exact(h.lv n hn).2 _ (jd (by omega) 0)
theorem near_cyc{x:GFiltered}(h:zb x){n:Nat}(hn:n < x.Levels.length){r q:Int}(hrq:q < r)(v:List Int):NearP x r n q v↔CycP x n q v:=by
 unfold NearP CycP;refine and_congr_right fun _=> and_congr_right fun _=>⟨fun g h0 j hj=> g h0 j hj ?_,fun g h0 j hj _=> g h0 j hj⟩;have:=(lv_rng h (n:=n - 1) (by omega) hj).1;omega
structure WideC (x:GComplex):Prop where
 p:IsP x.Prime
 dl:1≤x.Dims.length∧x.Dims.length≤100
 ml:x.Maps.length+1=x.Dims.length
 dims:∀d∈x.Dims,0≤d∧d≤100
 tab:∀k,k < x.Maps.length→jR x k
theorem WideC.dim{x:GComplex}(h:WideC x){n:Nat}(hn:n < x.Dims.length):0≤x.Dims.getD n 0∧x.Dims.getD n 0≤100:=h.dims _ (jd hn 0)
theorem concat2{a b:List (List Int)}(ha:a.length≤10000)(hb:b.length≤10000):F200 [a,b]=some (a++b):=by
 unfold F200;have h1:forR 0 ((([a,b]:List (List (List Int))).length:Nat):Int) (F200_1_B [a,b]) F200_1_D 0=some (((a.length+b.length:Nat):Int)):=by
  obtain⟨t,g1,g2⟩:=qo (B:=F200_1_B [a,b]) (D:=F200_1_D) (hi:=(([a,b]:List (List (List Int))).length:Int)) 2 rfl (by decide) (fun i s=> s=(((([a,b]:List (List (List Int))).take i).map List.length).sum:Nat)) (fun t=> t=(((a.length+b.length:Nat):Int))) (s:=0) rfl (by
   rintro i s hi rfl;left;unfold F200_1_B
   match i,hi with
   |0,_=> exact⟨_,by rw[show((0:Nat):Int)=((0:Nat):Int) from rfl,qg (l:=[a,b]) (i:=0) (by simp),ob,qi (by simp <;> omega) (by simp <;> omega),ob,if_neg (by simp <;> omega)],by simp⟩
   |1,_=> exact⟨_,by rw[qg (l:=[a,b]) (i:=1) (by simp),ob,qi (by simp <;> omega) (by simp <;> omega),ob,if_neg (by simp <;> omega)],by simp⟩) (by
   rintro s rfl;exact⟨_,rfl,by simp⟩)
  rw[g1,g2]
 have h2:forR 0 ((([a,b]:List (List (List Int))).length:Nat):Int) (F200_2_B [a,b]) F200_2_D []=some (a++b):=by
  obtain⟨t,g1,g2⟩:=qo (B:=F200_2_B [a,b]) (D:=F200_2_D) (hi:=(([a,b]:List (List (List Int))).length:Int)) 2 rfl (by decide) (fun i s=> s=(([a,b]:List (List (List Int))).take i).flatten) (fun t=> t=a++b) (s:=[]) rfl (by
   rintro i s hi rfl;left;unfold F200_2_B
   match i,hi with
   |0,_=> exact⟨_,by rw[qg (l:=[a,b]) (i:=0) (by simp),ob,qW (by simp; omega) (by simp; omega),ob],by simp⟩
   |1,_=> exact⟨_,by rw[qg (l:=[a,b]) (i:=1) (by simp),ob,qW (by simp; omega) (by simp; omega),ob],by simp⟩) (by
   rintro s rfl;exact⟨_,rfl,by simp⟩)
  rw[g1,g2]
 rw[h1,ob,if_pos (by omega),h2]
theorem F131_self{p:Int}{w:Nat}(hp:IsP p){E:List (List Int)}(h:Red p w E)(hw:w≤1000)(hn:E.length≤1000):F131 p E=some E:=by
 have hp1:1 < p:=by have:=hp.range; omega
 obtain⟨o,o1, -,o3⟩:=qK hp h.ok (by omega) (by omega);rw[o1,o3.same hp1 (jk.self h)]
theorem lin_okof{p:Int}(hp:IsP p){c w:Nat}{m:List (List Int)}(hml:m.length=c)(hm:Rows p w m)(hc:c≤1000)(hw:w≤1000){v:List Int}(hv:qF p c v):LinOK p w v m:=by
 have hvl:=hv.len;exact⟨hp.range,fun y hy=> by
  obtain⟨k,hk,rfl⟩:=wY hy;have:=hv.rng k (by omega)
  rwa[qY hk]at this,by omega,fun l hl=>⟨(hm l hl).len,fun y hy=> by
  have hl':=hm l hl;have hll:=hl'.len;obtain⟨k,hk,rfl⟩:=wY hy;have:=hl'.rng k (by omega)
  rwa[qY hk]at this⟩,by omega,by omega⟩
theorem lin_vec{p:Int}{w:Nat}{m:List (List Int)}{v:List Int}(H:LinOK p w v m):qF p w (lin p w v m):=by
 have hok:=linN_ok H v.length (wD _);refine⟨hok.1,fun j hj=>?_⟩;have hj':j < (lin p w v m).length:=by rw[lin_len H]; exact hj
 rw[qY hj'];exact hok.2 _ (wC hj')
theorem nth_take{l:List Int}{k j:Nat}(h:j < k):nth (l.take k) j=nth l j:=by
 unfold nth;rw[List.getD_eq_getElem?_getD,List.getD_eq_getElem?_getD,List.getElem?_take_of_lt h]
theorem take_vec{p:Int}{a b:Nat}{c:List Int}(hc:qF p (a+b) c):qF p a (c.take a):=
 ⟨by rw[yJ,hc.len]; omega,fun j hj=> by rw[nth_take hj]; exact hc.rng j (by omega)⟩
theorem lin_take{p:Int}(hp:IsP p){a b w:Nat}{m:List (List Int)}(hml:m.length=a)(hm:Rows p w m)(ha:a≤1000)(hw:w≤1000):Lin p (a+b) w fun c=> lin p w (c.take a) m:=by
 have hp0:0 < p:=by have:=hp.range; omega
 have H:=fun c (hc:qF p (a+b) c)=> lin_okof hp hml hm ha hw (take_vec hc);have hat:=fun c (hc:qF p (a+b) c) j (hj:j < w)=> lin_at (H c hc) hj;refine⟨fun c hc=> lin_vec (H c hc),fun u v k hu hv=>?_⟩;have h1:=qM hp0 hu.len hv.len (k:=k);have d1:=lin_vec (H u hu);have d2:=lin_vec (H v hv);refine(lin_vec (H _ h1)).ext (qM hp0 d1.len d2.len) fun j hj=>?_;have e:∀c,qF p (a+b) c→(c.take a).length=a:=fun c hc=>(take_vec hc).len;refine(hat _ h1 j hj).trans ?_;rw[e _ h1];refine(dot_cg (g:=fun i=> nth (u.take a) i - k*nth (v.take a) i) fun i hi=>?_).trans ?_
 ·rw[nth_take hi,nth_take hi,nth_take hi]
  exact qV hu.len hv.len (by omega)
 ·rw[dot_lin]
  have q1:=hat u hu j hj;have q2:=hat v hv j hj;rw[e u hu]at q1;rw[e v hv]at q2;exact Cg.symm ((qV d1.len d2.len hj).trans (.sub q1 (.mul (.refl _ _) q2)))
theorem meet_eq{p:Int}(hp:IsP p){w:Nat}(hw:w≤400){A B:List (List Int)}(hA:Red p w A)(hB:Red p w B):∃M,F293 p (w:Int) A B=some M∧Red p w M∧∀v,Sp p w M v↔Sp p w A v∧Sp p w B v:=by
 have hp1:1 < p:=by have:=hp.range; omega
 have hla:=zK hA;have hlb:=zK hB;have hr:Rows p w (A++B):=fun r hr=> by
  rcases wO.1 hr with q|q
  ·exact hA.ok r q
  ·exact hB.ok r q
 obtain⟨K,k1, -,k3,k4⟩:=kernel_full hp hr (by omega) (by rw[wI]; omega);rw[wI]at k1 k3 k4;have hkl:=zK k3;have hχ:=lin_take hp (b:=B.length) (rfl:A.length=A.length) hA.ok (by omega) (show w≤1000 by omega);have hM:Rows p w (K.map fun c=> lin p w (c.take A.length) A):=hχ.rows k3.ok;obtain⟨M,m1, -,m3⟩:=qK hp hM (by omega) (by rw[vT]; omega);refine⟨M,?_,m3.red,fun v=>(m3.sp v).trans (meet_sp hp1 hA hB hχ k3.ok k4 fun c hc j hj=>?_)⟩
 ·unfold F293
  rw[F131_self hp hA (by omega) (by omega),ob,qW (by simp; omega) (by simp; omega),ob,vS,F131_self hp hB (by omega) (by omega),ob,qW (by omega) (by omega),ob,wI,k1,ob,
   forR_map (fun c=> lin p w (c.take A.length) A) (by omega) (fun k hk s hs=> by
    have hc:=k3.ok _ (wC hk);unfold F293_1_B;have e:slI K[k] 0 (A.length:Int)=some (K[k].take A.length):=by
     unfold slI;rw[if_pos ⟨by omega,by omega,by rw[hc.len]; omega⟩];rfl
    rw[qg hk,ob,e,ob,F80_eq (lin_okof hp rfl hA.ok (by omega) (by omega) (take_vec hc)) rfl,ob,qW (by simp; simp at hs; omega) (by simp; simp at hs; omega),ob]) (by intro i s; rfl),ob,vS,m1,ob]
 ·have:=lin_at (lin_okof hp rfl hA.ok (by omega) (by omega) (take_vec hc)) hj
  rw[(take_vec hc).len]at this;refine this.trans ?_;rw[show dot (nth (c.take A.length)) A A.length j=dot (nth c) A A.length j from zz fun i hi=> by rw[nth_take hi]];exact .refl _ _
theorem near_ex{x:GFiltered}(hs:qX x)(h:zb x){n:Nat}(hn:n < x.Levels.length){r q:Int}(hr: -100≤r∧r≤100)(hq: -100≤q∧q≤100):
  ∃N,F184 x r (n:Int) q=some N∧Red x.Complex.Prime (dm x n) N:=by
 have hp:=h.vc.p;have hp1:1 < x.Complex.Prime:=by have:=hp.range; omega
 have hd:=jO h hn;have hk:=jZ (x:=x) (n:=n) (q:=q);have hf:=farL_len h (n:=n) (by omega) (t:=q - r);obtain⟨d,c1,c2,c3⟩:=F184_1_eq hs h (n:=n) (by omega) hr hq (qS x n q);have hrl:(rowsF x n r q).length=(qS x n q).length:=by simp[rowsF]
 have hrows:=rowsF_ok h (n:=n) (by omega) r q (fun e=> by omega);obtain⟨K,k1,k2,k3⟩:=kernel_same hp hrows (by omega) (by omega);rw[hrl]at k1 k3;have hKl:=zK k3;have hv:∀v∈qS x n q,0≤v∧v < dm x n:=fun v hv=> by
  obtain⟨j,h1, -,rfl⟩:=jw.1 hv;omega
 have hKr:∀r∈K,r.length=(qS x n q).length:=fun r hr=>(k3.ok r hr).len;have hw:Rows x.Complex.Prime (dm x n) (wides (qS x n q) (dm x n) K):=fun r hr=> by
  obtain⟨row,hrow,rfl⟩:=wV.1 hr;exact wideN_ok (by omega) (k3.ok row hrow) _ (wD _)
 have hwl:(wides (qS x n q) (dm x n) K).length=K.length:=by simp[wides]
 obtain⟨N,n1,n2,n3⟩:=qK hp hw (by omega) (by omega);refine⟨N,?_,n3.red⟩
 ·unfold F184
  rw[F202_eq hs h hn,ob,c1,ob,c2,ob,c3,ob,F184_2_eq hs h hn,ob,k2,ob,F184_4_eq hs h hn (by omega) (by omega) hv hKr,ob,n2,ob]
theorem cyc_full{x:GFiltered}(hs:qX x)(h:zb x){n:Nat}(hn:n < x.Levels.length):∃K,F98 x.Complex (n:Int)=some K∧Red x.Complex.Prime (dm x n) K∧∀v,Sp x.Complex.Prime (dm x n) K v↔qF x.Complex.Prime (dm x n) v∧(n≠0→∀j,j < dm x (n - 1)→Cg x.Complex.Prime (dot (nth v) (mt x n) (dm x n) j) 0):=by
 have hp:=h.vc.p;have hp1:1 < x.Complex.Prime:=by have:=hp.range; omega
 have hp0:0 < x.Complex.Prime:=by omega
 have hd:=jO h hn;have hll:=h.ll;have hsl:=hs.l;unfold F98;rw[F99_dm hs h hn,ob];rcases Nat.eq_zero_or_pos n with h0|h0
 ·subst h0
  rw[show((0:Nat):Int)=0 from rfl,F76_0 hs.c.d (by omega) hd.1 (by omega),ob,kernel_none hp (by omega),ob];refine⟨_,rfl,units_red hp1 _,fun v=>⟨fun q=>⟨q.ok hp0 (units_red hp1 _).ok,fun c=> absurd rfl c⟩,fun q=> units_sp hp1 q.1⟩⟩
 ·obtain⟨k,rfl⟩:∃k,n=k+1:=⟨n - 1,by omega⟩
  obtain⟨h1,h2,h3⟩:=mt_ok h hn;have hd0:=jO h (n:=k) (by omega);obtain⟨m,m1,m2⟩:=F76_at hs h hn;have:=m2 (by omega);subst this;obtain⟨K,k1, -,k3,k4⟩:=kernel_full hp h3 (by omega) (by omega);rw[h2]at k1 k3 k4;rw[m1,ob,k1,ob];exact⟨K,rfl,k3,fun v=>(k4 v).trans ⟨fun q=>⟨q.1,fun _ j hj=> q.2 j hj⟩,fun q=>⟨q.1,fun j hj=> q.2 (by omega) j hj⟩⟩⟩
def spaceL(x:GFiltered)(n:Nat)(q:Int):List (List Int):=coll (dm x n) fun j=> if lv x n j≤q then [je (dm x n) j]else []
theorem space_eq{x:GFiltered}(hs:qX x)(h:zb x){n:Nat}(hn:n < x.Levels.length)(q:Int):F292 x (n:Int) q=some (spaceL x n q):=by
 have hd:=jO h hn;unfold F292 spaceL;rw[F99_dm hs h hn,ob,forR_coll (n:=dm x n) (fun j=> if lv x n j≤q then [je (dm x n) j]else []) (by omega) (fun j=> one_len _) (by
  intro i s hi hl;unfold F292_1_B;rw[qn hn [],ob,qn (by rw[hd.2.2]; exact hi) 0,ob]
  change (if lv x n i≤q then _ else _)=_
  by_cases c:lv x n i≤q
  ·rw[if_pos c,if_pos c,mkL_ok (dm x n) rfl (by omega) (by omega),ob,qg (by rw[yN]; exact hi),ob,qU (by rw[yN]; exact hi),ob,qW (by simp; omega) (by simp; omega),ob]
   rfl
  ·rw[if_neg c,if_neg c,vF]) (by intro i s; rfl),ob]
theorem mem_space{x:GFiltered}{n:Nat}{q:Int}{r:List Int}:r∈spaceL x n q↔∃j,j < dm x n∧lv x n j≤q∧r=je (dm x n) j:=by
 unfold spaceL;rw[jc];refine exists_congr fun j=> and_congr_right fun _=>?_;split <;> rename_i c
 ·simp[c]
 ·simp[c]
theorem space_red{x:GFiltered}(h:zb x){n:Nat}{q:Int}:Red x.Complex.Prime (dm x n) (spaceL x n q):=by
 have hp1:1 < x.Complex.Prime:=by have:=h.vc.p.range; omega
 have key:∀k,k≤dm x n→(coll k fun j=> if lv x n j≤q then [je (dm x n) j]else []).Pairwise (fun r s=> ld r < ld s∧nth r (ld s)=0)∧∀r∈(coll k fun j=> if lv x n j≤q then [je (dm x n) j]else []),∃j,j < k∧r=je (dm x n) j:=by
  intro k;induction k with
  |zero=> intro _; exact⟨by simp[coll],fun r hr=> by simp[coll]at hr⟩
  |succ k ih=>
   intro hk;obtain⟨a,b⟩:=ih (by omega);rw[qN];split
   ·refine⟨yA.2 ⟨a,by simp,fun r hr s hs'=>?_⟩,fun r hr=>?_⟩
    ·obtain⟨j,hj,rfl⟩:=b r hr
     rw[List.mem_singleton.1 hs',ld_unit (show j < dm x n by omega),ld_unit (show k < dm x n by omega),jb (show j < dm x n by omega),if_neg (by omega)];exact⟨hj,rfl⟩
    ·rcases wO.1 hr with c|c
     ·obtain⟨j,hj,e⟩:=b r c; exact⟨j,by omega,e⟩
     ·exact⟨k,by omega,List.mem_singleton.1 c⟩
   ·rw[vF]
    exact⟨a,fun r hr=> by obtain⟨j,hj,e⟩:=b r hr; exact⟨j,by omega,e⟩⟩
 refine⟨fun r hr=>?_,fun r hr=>?_,(key _ (wD _)).1⟩
 ·obtain⟨j,hj, -,rfl⟩:=mem_space.1 hr
  exact unitv_ok hp1 hj
 ·obtain⟨j,hj, -,rfl⟩:=mem_space.1 hr
  rw[ld_unit hj,jb hj,if_pos rfl];exact⟨hj,rfl⟩
theorem space_sp{x:GFiltered}(h:zb x){n:Nat}{q:Int}(v:List Int):Sp x.Complex.Prime (dm x n) (spaceL x n q) v↔qF x.Complex.Prime (dm x n) v∧∀i,i < dm x n→q < lv x n i→nth v i=0:=by
 have hp1:1 < x.Complex.Prime:=by have:=h.vc.p.range; omega
 have hp0:0 < x.Complex.Prime:=by omega
 have hR:=space_red h (n:=n) (q:=q);constructor
 ·intro hv
  refine⟨hv.ok hp0 hR.ok,fun i hi hl=>?_⟩;have ho:=hv.ok hp0 hR.ok;have hc:=hR.coord hp0 hv i hi;rw[xe fun r hr=> .inr ?_]at hc
  ·exact hc.eq (ho.rng i hi).1 (ho.rng i hi).2 (by omega) (by omega)
  ·obtain⟨j,hj,hl2,rfl⟩:=mem_space.1 hr
   rw[jb hj,if_neg (by rintro rfl; omega)]
 ·rintro⟨ho,hz⟩
  refine(rest_zero hp0 hR ho).1 ((xj hp0 hR.ok ho).ext (zS hp0 _) fun j hj=>?_);rw[zq];by_cases c:lv x n j≤q
  ·have:=rest_lead hp0 hR ho _ (mem_space.2 ⟨j,hj,c,rfl⟩)
   rw[ld_unit hj]at this;rw[this]; exact .refl _ _
  ·rw[rest_keep hp0 hj hR.ok (fun r hr=>?_) ho (hz j hj (by omega))]
   ·exact .refl _ _
   ·obtain⟨i,hi,hl2,rfl⟩:=mem_space.1 hr
    rw[jb hi,if_neg (by rintro rfl; omega)]
theorem meet_near{x:GFiltered}(hs:qX x)(h:zb x){n:Nat}(hn:n < x.Levels.length){q:Int}(hq: -10≤q∧q≤5):∃K N,F98 x.Complex (n:Int)=some K∧F293 x.Complex.Prime (dm x n:Int) K (spaceL x n q)=some N∧F184 x 6 (n:Int) q=some N∧Red x.Complex.Prime (dm x n) N:=by
 have hp:=h.vc.p;have hp0:0 < x.Complex.Prime:=by have:=hp.range; omega
 have hd:=jO h hn;obtain⟨K,k1,k2,k3⟩:=cyc_full hs h hn;obtain⟨M,m1,m2,m3⟩:=meet_eq hp (w:=dm x n) (by omega) k2 (space_red h (n:=n) (q:=q));obtain⟨N,n1,n3⟩:=near_ex hs h hn (r:=6) (q:=q) (by omega) (by omega);have e:M=N:=Red.unique hp0 m2 n3 fun v=> by
  rw[m3,k3,space_sp h,near_sp hs h hn (by omega) (by omega) n1 v,near_cyc h hn (by omega)];unfold CycP;constructor
  ·rintro⟨⟨a,b⟩, -,c⟩; exact⟨a,c,b⟩
  ·rintro⟨a,c,b⟩; exact⟨⟨a,b⟩,a,c⟩
 subst e;exact⟨K,M,k1,m1,n1,n3⟩
def bdl(x:GFiltered)(n:Nat)(s:Int):List (List Int):=if n+1 < x.Levels.length then(qS x (n+1) s).map fun i=> qr (mt x (n+1)) i.toNat else []
theorem bdl_ok{x:GFiltered}(h:zb x){n:Nat}{s:Int}:Rows x.Complex.Prime (dm x n) (bdl x n s)∧(bdl x n s).length≤8:=by
 unfold bdl;split
 ·rename_i c
  obtain⟨h1,h2,h3⟩:=mt_ok h c;have hd:=jO h c;refine⟨fun r hr=>?_,by have:=jZ (x:=x) (n:=n+1) (q:=s); rw[vT]; omega⟩;obtain⟨i,hi,rfl⟩:=wV.1 hr;obtain⟨j,hj, -,rfl⟩:=jw.1 hi;exact h3 _ (zO (by simp; omega))
 ·exact⟨fun r hr=>(nomatch hr),by simp⟩
theorem F296_eq{x:GFiltered}(hs:qX x)(h:zb x){n:Nat}(hn:n < x.Levels.length){s:Int}:F296 x (n:Int) s=F133 x.Complex.Prime (bdl x n s):=by
 have hsl:=hs.l;have hll:=h.ll;have hml:=h.vc.ml;have en:(n:Int)+1=((n+1:Nat):Int):=by omega
 unfold F296;rw[qi (by omega) (by omega),ob,en];by_cases c:n+1 < x.Levels.length
 ·obtain⟨h1,h2,h3⟩:=mt_ok h c
  have hd:=jO h c;have hk:=jZ (x:=x) (n:=n+1) (q:=s);have e:bdl x n s=(qS x (n+1) s).map fun i=> qr (mt x (n+1)) i.toNat:=if_pos c;rw[F202_eq hs h c,ob,forR_map (fun i=> qr (mt x (n+1)) i.toNat) (by omega) (fun k hk' t ht=> by
   obtain⟨i,hi,ei⟩:=keep_get hk';unfold F296_1_B;rw[qg hk',ob,qn h1 [],ob,ei]
   change (getI (mt x (n+1)) (i:Int)).bind _=_
   rw[qn (show i < (mt x (n+1)).length by omega) [],ob,qW (by simp; simp at ht; omega) (by simp; simp at ht; omega),ob];rfl) (by intro i t; rfl),ob,vS,e]
  cases F133 x.Complex.Prime ((qS x (n+1) s).map fun i=> qr (mt x (n+1)) i.toNat)<;> rfl
 ·have e:bdl x n s=[]:=if_neg c
  rw[F202_out hs h (.inr (by omega)),ob,e]
  change (some ([]:List (List Int))).bind _=_
  rw[ob];cases F133 x.Complex.Prime [] <;> rfl
theorem F294_eq{x:GFiltered}(hs:qX x)(h:zb x){n:Nat}(hn:n < x.Levels.length){s:Int}:F294 x (n:Int) s=F131 x.Complex.Prime (bdl x n s):=by
 have hsl:=hs.l;have hll:=h.ll;have hml:=h.vc.ml;have hcd:=hs.c.d;have en:(n:Int)+1=((n+1:Nat):Int):=by omega
 unfold F294;rw[qi (by omega) (by omega),ob,en];by_cases c:n+1 < x.Levels.length
 ·obtain⟨h1,h2,h3⟩:=mt_ok h c
  have hd:=jO h c;obtain⟨m,m1,m2⟩:=F76_at hs h c;have:=m2 (by omega);subst this;have e:bdl x n s=coll (dm x (n+1)) fun j=> if lv x (n+1) j≤s then [qr (mt x (n+1)) j]else []:=by
   unfold bdl qS;rw[if_pos c,coll_map];refine coll_congr fun j hj=>?_;split <;> simp
  rw[m1,ob,loopW_coll (n:=dm x (n+1)) (fun j=> if lv x (n+1) j≤s then [qr (mt x (n+1)) j]else []) (fun j=> one_len _) (by
   intro i t hi hl;unfold jK;simp only;rw[qi (by omega) (by omega),ob,en,F99_dm hs h c,ob,if_pos (by omega),qn c [],ob,qn (by rw[hd.2.2]; exact hi) 0,ob]
   change (if lv x (n+1) i≤s then _ else _)=_
   by_cases c2:lv x (n+1) i≤s
   ·rw[if_pos c2,if_pos c2,qn (show i < (mt x (n+1)).length by omega) [],ob,qW (by simp; omega) (by simp; omega),ob,qi (by omega) (by omega),ob]
    rfl
   ·rw[if_neg c2,if_neg c2,vF,qi (by omega) (by omega),ob]) (by
   intro t;unfold jK;simp only;rw[qi (by omega) (by omega),ob,en,F99_dm hs h c,ob,if_neg (by omega)]),ob,e]
  cases F131 x.Complex.Prime (coll (dm x (n+1)) fun j=> if lv x (n+1) j≤s then [qr (mt x (n+1)) j]else [])<;> rfl
 ·have e:bdl x n s=[]:=if_neg c
  have e99:F99 x.Complex ((n+1:Nat):Int)=some 0:=by
   unfold F99;rw[qi (by omega) (by omega),ob,F54_eq,ob,if_neg (by simp; omega)]
  have e76:F76 x.Complex ((n+1:Nat):Int)=some []:=by
   unfold F76;rw[qi (by omega) (by omega),ob,F54_eq,ob,if_neg (by simp; omega)];obtain⟨t,g1,g2⟩:=qA (S:=F76_1_S x.Complex ((n+1:Nat):Int)) (fun s=> 0) (fun s=> s=([],0)) (fun t=> t=[]) (s:=([],0)) rfl (by
    rintro t rfl;right;unfold F76_1_S;simp only;rw[e99,ob,if_neg (by simp)];exact⟨_,rfl,rfl⟩)
   rw[g1,ob,g2]
  have el:qB (jK x (n:Int) s []) ([],0)=some []:=by
   obtain⟨t,g1,g2⟩:=qA (S:=jK x (n:Int) s []) (fun s=> 0) (fun s=> s=([],0)) (fun t=> t=[]) (s:=([],0)) rfl (by
    rintro t rfl;right;unfold jK;simp only;rw[qi (by omega) (by omega),ob,en,e99,ob,if_neg (by simp)];exact⟨_,rfl,rfl⟩)
   rw[g1,g2]
  rw[e76,ob,el,ob,e];cases F131 x.Complex.Prime [] <;> rfl
theorem F384_eq(a:Int):F384 a=some false:=by unfold F384; simp
def kd(d:Int):Int:=if d < 0 then 6 else d
def sgn(a b:Int):Int:=if a < b then -1 else if b < a then 1 else 0
theorem F380_eq(a b:Int):F380 a b=some (sgn a b):=by
 unfold F380 sgn;rw[F384_eq,F384_eq,ob,ob,if_neg (by decide),if_neg (by decide)];split
 ·rfl
 ·split <;> rfl
theorem F379_eq(a:Int):F379 a=some (kd a):=by unfold F379 kd; split <;> rfl
theorem F381_eq(a b c:Int):F381 [a,b,c]=some (if a=0 then(if b=0 then c else b)else a):=by
 have e:∀ (i x:Int),getI [a,b,c] i=some x→xy [a,b,c] i ()=if x=0 then some (.inl ())else some (.inr (.inr x)):=fun i x h=> by
  unfold xy; rw[h]; rfl
 have e0:=e 0 a rfl;have e1:=e (0+1) b rfl;have e2:=e (0+1+1) c rfl;unfold F381;have k:forR 0 (([a,b,c]:List Int).length:Int) (xy [a,b,c]) (F381_1_D [a,b,c]) ()=some (if a=0 then(if b=0 then(if c=0 then .inl ()else .inr c)else .inr b)else .inr a):=by
  unfold forR;rw[if_pos ⟨by decide,by simp⟩];show forI (xy [a,b,c]) (F381_1_D [a,b,c]) 3 0 ()=_;by_cases ha:a=0
  ·rw[if_pos ha]at e0 ⊢
   by_cases hb:b=0
   ·rw[if_pos hb]at e1 ⊢
    by_cases hc:c=0
    ·rw[if_pos hc]at e2 ⊢
     simp only[forI,e0,e1,e2]; rfl
    ·rw[if_neg hc]at e2 ⊢
     simp only[forI,e0,e1,e2]
   ·rw[if_neg hb]at e1 ⊢
    simp only[forI,e0,e1]
  ·rw[if_neg ha]at e0 ⊢
   simp only[forI,e0]
 rw[k,ob];by_cases ha:a=0
 ·rw[if_pos ha,if_pos ha]
  by_cases hb:b=0
  ·rw[if_pos hb,if_pos hb]
   by_cases hc:c=0
   ·rw[if_pos hc,hc]
   ·rw[if_neg hc]
  ·rw[if_neg hb,if_neg hb]
 ·rw[if_neg ha,if_neg ha]
def Ble(x y:GBar):Prop:=x.Degree < y.Degree∨x.Degree=y.Degree∧(x.Birth < y.Birth∨x.Birth=y.Birth∧kd x.Death≤kd y.Death)
theorem sgn_lt{a b:Int}(h:b < a):sgn a b=1:=by unfold sgn; rw[if_neg (by omega),if_pos h]
theorem sgn_eq{a b:Int}(h:a=b):sgn a b=0:=by unfold sgn; rw[if_neg (by omega),if_neg (by omega)]
theorem cmp_ok{x y:GBar}(h:Ble x y):∃c,F374 y x=some c∧¬c < 0:=by
 unfold F374;rw[F380_eq,F380_eq,F379_eq,F379_eq,ob,ob,ob,ob,F380_eq,ob,F381_eq,ob];refine⟨_,rfl,?_⟩;rcases h with h|⟨h,h2|⟨h2,h3⟩⟩
 ·rw[sgn_lt h,if_neg (by decide)]; decide
 ·rw[sgn_eq h.symm,sgn_lt h2,if_pos rfl,if_neg (by decide)]; decide
 ·rw[sgn_eq h.symm,sgn_eq h2.symm,if_pos rfl,if_pos rfl]
  rcases Int.lt_or_eq_of_le h3 with q|q
  ·rw[sgn_lt q]; decide
  ·rw[sgn_eq q.symm]; decide
def Srt(l:List GBar)(f:GBar→GBar→Option Int):Prop:=∀ (i j:Nat) (hj:j < l.length) (hi:i≤j),∃c,f l[j] (l[i]'(by omega))=some c∧¬c < 0
theorem srt_of{l:List GBar}(h:l.Pairwise Ble)(hr:∀x∈l,Ble x x):Srt l F374:=fun i j hj hi=> by
 rcases Nat.lt_or_eq_of_le hi with q|rfl
 ·exact cmp_ok (yR.1 h i j (by omega) hj q)
 ·exact cmp_ok (hr _ (wC hj))
theorem ins_ok{l:List GBar}{f:GBar→GBar→Option Int}(hs:Srt l f){a b:Nat}(hb:b≤l.length)(hl:l.length≤1000)(ha:a≤1000):F382 l (a:Int) (b:Int) f=some ():=by
 unfold F382;rw[qi (by omega) (by omega),ob];have step:∀ (i:Nat),i < b→qB (F382_2_S l a b i f) (i:Int)=some ():=by
  intro i hi;obtain⟨t,g1,g2⟩:=qA (S:=F382_2_S l a b i f) (fun s=> 0) (fun s=> s=(i:Int)) (fun t=> True) (s:=(i:Int)) rfl (by
   rintro s rfl;right;unfold F382_2_S;by_cases c:(a:Int) < i
   ·rw[if_pos c,qg (show i < l.length by omega),ob,qi (by omega) (by omega),ob,show(i:Int) - 1=((i - 1:Nat):Int) by omega,qg (show i - 1 < l.length by omega),ob]
    obtain⟨c,h1,h2⟩:=hs (i - 1) i (by omega) (by omega);rw[h1,ob,if_neg h2];exact⟨_,rfl,trivial⟩
   ·rw[if_neg c]; exact⟨_,rfl,trivial⟩)
  rw[g1]
 have key:forR ((a:Int)+1) (b:Int) (xx l a b f) (F382_1_D l a b f) ()=some ():=by
  unfold forR;rw[if_pos (by omega)];have:∀ (n:Nat) (i:Nat),(n=0∨i+n=b)→forI (xx l a b f) (F382_1_D l a b f) n (i:Int) ()=some ():=by
   intro n;induction n with
   |zero=> intro i _; rfl
   |succ n ih=>
    intro i h;have e:xx l a b f (i:Int) ()=some (.inl ()):=by unfold xx; rw[step i (by omega),ob]
    simp only[forI,e];exact ih (i+1) (by omega)
  exact this _ (a+1) (by omega)
 rw[key]; rfl
theorem half_ok{x:Nat}(h:x≤100000):Int.fdiv (Go.IntKind.wrap .u64 (x:Int)) (2^min 1 (Go.IntKind.bits .u64))=((x/2:Nat):Int):=by
 have e:Go.IntKind.wrap .u64 (x:Int)=(x:Int):=by
  unfold Go.IntKind.wrap;simp[Go.IntKind.bits,Go.IntKind.signed];omega
 rw[e];show Int.fdiv (x:Int) 2=_;rw[Int.fdiv_eq_ediv_of_nonneg _ (by decide)];omega
theorem sym1{l:List GBar}{f:GBar→GBar→Option Int}(hs:Srt l f)(hl:l.length≤1000){a m b:Nat}(ha:a < m)(hm:m < b)(hb:b≤l.length):qB (F383_1_S l a f) ((m:Int),(b:Int))=some (m:Int):=by
 obtain⟨t,g1,g2⟩:=qA (S:=F383_1_S l a f) (fun s=> s.2.toNat) (fun s=> s.1=(m:Int)∧∃j:Nat,s.2=(j:Int)∧m≤j∧j≤b) (fun t=> t=(m:Int)) (s:=((m:Int),(b:Int))) ⟨rfl,b,rfl,by omega,wD _⟩ (by
  rintro⟨s1,s2⟩ ⟨h1,j,h2,h3,h4⟩;simp only at h1 h2; subst h1; subst h2;unfold F383_1_S;simp only;by_cases c:(m:Int) < (j:Int)
  ·left
   rw[if_pos c,qi (by omega) (by omega),ob,show(m:Int)+j=((m+j:Nat):Int) by omega,half_ok (by omega),qi (by omega) (by omega),ob,qg (show(m+j)/2 < l.length by omega),ob,qg (show a < l.length by omega),ob];obtain⟨c,h1,h2⟩:=hs a ((m+j)/2) (by omega) (by omega);rw[h1,ob,if_neg h2];exact⟨_,rfl,⟨rfl,(m+j)/2,rfl,by omega,by omega⟩,by simp only; omega⟩
  ·right
   rw[if_neg c];exact⟨_,rfl,rfl⟩)
 rw[g1,g2]
theorem sym3{l:List GBar}{f:GBar→GBar→Option Int}(hs:Srt l f)(hl:l.length≤1000){a m:Nat}(ha:a≤m)(hm:m < l.length):qB (F383_3_S l m f) ((a:Int),(m:Int))=some (m:Int):=by
 obtain⟨t,g1,g2⟩:=qA (S:=F383_3_S l m f) (fun s=> m - s.1.toNat) (fun s=> s.2=(m:Int)∧∃j:Nat,s.1=(j:Int)∧j≤m) (fun t=> t=(m:Int)) (s:=((a:Int),(m:Int))) ⟨rfl,a,rfl,by omega⟩ (by
  rintro⟨s1,s2⟩ ⟨h1,j,h2,h3⟩;simp only at h1 h2; subst h1; subst h2;unfold F383_3_S;simp only;by_cases c:(j:Int) < (m:Int)
  ·left
   rw[if_pos c,qi (by omega) (by omega),ob,show(j:Int)+m=((j+m:Nat):Int) by omega,half_ok (by omega),qi (by omega) (by omega),ob,qg hm,ob,qg (show(j+m)/2 < l.length by omega),ob];obtain⟨c,h1,h2⟩:=hs ((j+m)/2) m hm (by omega);rw[h1,ob,if_neg h2,qi (by omega) (by omega),ob];exact⟨_,rfl,⟨rfl,(j+m)/2+1,by omega,by omega⟩,by simp only; omega⟩
  ·right
   rw[if_neg c];exact⟨_,rfl,by omega⟩)
 rw[g1,g2]
theorem sym5{l:List GBar}{f:GBar→GBar→Option Int}(hs:Srt l f)(hl:l.length≤1000){a1 a2 a3 x57 x58:Int}{s r p:Nat}(h1:s≤r)(hp:∀c,s≤c→c < r→c≤p - c∧p - c < l.length∧c≤p)(hr:r≤1000)(hp2:p≤3000):qB (xw l a1 a2 a3 x57 x58 p f) ((s:Int),(r:Int))=some (r:Int):=by
 obtain⟨t,g1,g2⟩:=qA (S:=xw l a1 a2 a3 x57 x58 p f) (fun z=> r - z.1.toNat) (fun z=> z.2=(r:Int)∧∃j:Nat,z.1=(j:Int)∧j≤r∧s≤j) (fun t=> t=(r:Int)) (s:=((s:Int),(r:Int))) ⟨rfl,s,rfl,by omega,wD _⟩ (by
  rintro⟨s1,s2⟩ ⟨h1,j,h2,h3,h4⟩;simp only at h1 h2; subst h1; subst h2;unfold xw;simp only;by_cases c:(j:Int) < (r:Int)
  ·left
   obtain⟨q1,q2,q3⟩:=hp ((j+r)/2) (by omega) (by omega);rw[if_pos c,qi (by omega) (by omega),ob,show(j:Int)+r=((j+r:Nat):Int) by omega,half_ok (by omega),qi (by omega) (by omega),ob,qi (by omega) (by omega),ob,show(p:Int) - ((j+r)/2:Nat)=((p - (j+r)/2:Nat):Int) by omega,qg q2,ob,qg (show(j+r)/2 < l.length by omega),ob];obtain⟨c,h1,h2⟩:=hs ((j+r)/2) (p - (j+r)/2) q2 q1;rw[h1,ob,if_neg h2,qi (by omega) (by omega),ob];exact⟨_,rfl,⟨rfl,(j+r)/2+1,by omega,by omega,by omega⟩,by simp only; omega⟩
  ·right
   rw[if_neg c];exact⟨_,rfl,by omega⟩)
 rw[g1,g2]
theorem sym2{l:List GBar}{a m:Nat}(h:a+1=m)(hm:m≤1000):qB (F383_2_S l (m:Int)) (a:Int)=some ():=by
 obtain⟨t,g1,g2⟩:=qA (S:=F383_2_S l (m:Int)) (fun _=> 0) (fun s=> s=(a:Int)) (fun _=> True) (s:=(a:Int)) rfl (by
  rintro s rfl;right;unfold F383_2_S;rw[qi (by omega) (by omega),ob,if_neg (by omega)];exact⟨_,rfl,trivial⟩)
 rw[g1]
theorem sym4{l:List GBar}{m:Int}:qB (F383_4_S l m) m=some ():=by
 obtain⟨t,g1,g2⟩:=qA (S:=F383_4_S l m) (fun _=> 0) (fun s=> s=m) (fun _=> True) (s:=m) rfl (by
  rintro s rfl;right;unfold F383_4_S;rw[if_neg (by omega)];exact⟨_,rfl,trivial⟩)
 rw[g1]
theorem sym_ok{l:List GBar}{f:GBar→GBar→Option Int}(hs:Srt l f)(hl:l.length≤1000):∀ (k a m b:Nat),a < m→m < b→b≤l.length→b - a≤3*2^k→F383R (k+1) l (a:Int) (m:Int) (b:Int) f=some ():=by
 intro k;induction k with
 |zero=>
  intro a m b h1 h2 h3 h4;show F383S (F383R 0) l a m b f=_;unfold F383S;rw[qi (by omega) (by omega),ob];by_cases c1:(m:Int) - a=1
  ·rw[if_pos c1,sym1 hs hl h1 h2 h3,ob,sym2 (by omega) (by omega),ob]
  rw[if_neg c1,qi (by omega) (by omega),ob,if_pos (by omega),sym3 hs hl (by omega) (by omega),ob,sym4,ob]
 |succ k ih=>
  intro a m b h1 h2 h3 h4;show F383S (F383R (k+1)) l a m b f=_;unfold F383S;rw[qi (by omega) (by omega),ob];by_cases c1:(m:Int) - a=1
  ·rw[if_pos c1,sym1 hs hl h1 h2 h3,ob,sym2 (by omega) (by omega),ob]
  rw[if_neg c1,qi (by omega) (by omega),ob];by_cases c2:(b:Int) - m=1
  ·rw[if_pos c2,sym3 hs hl (by omega) (by omega),ob,sym4,ob]
  have hp:3*2^(k+1)=2*(3*2^k):=by rw[Nat.pow_succ]; omega
  rw[if_neg c2,qi (by omega) (by omega),ob,show(a:Int)+b=((a+b:Nat):Int) by omega,half_ok (by omega),qi (by omega) (by omega),ob,qi (by omega) (by omega),ob];by_cases c3:(((a+b)/2:Nat):Int) < (m:Int)
  ·rw[if_pos c3,qi (by omega) (by omega),ob,qi (by omega) (by omega),ob,show(((a+b)/2:Nat):Int)+m - b=(((a+b)/2+m - b:Nat):Int) by omega,show(((a+b)/2:Nat):Int)+m - 1=(((a+b)/2+m - 1:Nat):Int) by omega,
    sym5 hs hl (by omega) (fun c q1 q2=> by omega) (by omega) (by omega),ob,qi (by omega) (by omega),ob,show(((a+b)/2:Nat):Int)+m - (((a+b)/2:Nat):Int)=(m:Int) by omega,if_pos c3,if_neg (by omega)]
   have r:=ih ((a+b)/2) m b (by omega) h2 h3 (by omega);by_cases c4:(a:Int) < (((a+b)/2:Nat):Int)
   ·rw[if_pos c4,if_neg (by omega),if_pos c3,if_pos (by omega),r,ob]
   ·rw[if_neg c4,if_pos c3,if_pos (by omega),r,ob]
  ·rw[if_neg c3,qi (by omega) (by omega),ob,show(((a+b)/2:Nat):Int)+m - 1=(((a+b)/2+m - 1:Nat):Int) by omega,
    sym5 hs hl (by omega) (fun c q1 q2=> by omega) (by omega) (by omega),ob,qi (by omega) (by omega),ob,show(((a+b)/2:Nat):Int)+m - (m:Int)=(((a+b)/2:Nat):Int) by omega,if_neg (by omega),if_pos (by omega)]
   by_cases c4:(m:Int) < (((a+b)/2:Nat):Int)
   ·have r:=ih a m ((a+b)/2) h1 (by omega) (by omega) (by omega)
    rw[if_pos c4,r,ob,if_neg (by omega)]
   ·rw[if_neg c4,if_neg (by omega)]
theorem stable_ok{l:List GBar}{f:GBar→GBar→Option Int}(hs:Srt l f)(hl:l.length≤24):F373 l f=some ():=by
 have e1:qB (xA l (l.length:Int) f) (0,20)=some (if l.length < 20 then 0 else 20):=by
  obtain⟨t,g1,g2⟩:=qA (S:=xA l (l.length:Int) f) (fun s=>(100 - s.2).toNat) (fun s=> s=(0,20)∨(s=(20,40)∧20≤l.length)) (fun t=> t=(if l.length < 20 then 0 else 20)) (s:=(0,20)) (.inl rfl) (by
   rintro s (rfl|⟨rfl,h⟩)
   ·unfold xA
    simp only;by_cases c:(20:Int)≤(l.length:Int)
    ·left
     have r:=ins_ok hs (a:=0) (b:=20) (by omega) (by omega) (by omega);rw[if_pos c,show(0:Int)=((0:Nat):Int) from rfl,show(20:Int)=((20:Nat):Int) from rfl,r,ob];exact⟨(20,40),rfl,.inr ⟨rfl,by omega⟩,by decide⟩
    ·right
     rw[if_neg c];exact⟨_,rfl,by rw[if_pos (by omega)]⟩
   ·right
    unfold xA;simp only;rw[if_neg (by omega)];exact⟨_,rfl,by rw[if_neg (by omega)]⟩)
  rw[g1,g2]
 have e2:F382 l (if l.length < 20 then 0 else 20) (l.length:Int) f=some ():=by
  by_cases c:l.length < 20
  ·rw[if_pos c]; exact ins_ok hs (a:=0) (wD _) (by omega) (by omega)
  ·rw[if_neg c]; exact ins_ok hs (a:=20) (wD _) (by omega) (by omega)
 have e4:qB (F378_3_S l (l.length:Int) 20 f) (0,40)=some 0:=by
  obtain⟨t,g1,g2⟩:=qA (S:=F378_3_S l (l.length:Int) 20 f) (fun _=> 0) (fun s=> s=(0,40)) (fun t=> t=0) (s:=(0,40)) rfl (by
   rintro s rfl;right;unfold F378_3_S;simp only;rw[if_neg (by omega)];exact⟨_,rfl,rfl⟩)
  rw[g1,g2]
 have e3:qB (xz l (l.length:Int) f) 20=some ():=by
  obtain⟨t,g1,g2⟩:=qA (S:=xz l (l.length:Int) f) (fun s=>(100 - s).toNat) (fun s=> s=20∨s=40) (fun t=> True) (s:=20) (.inl rfl) (by
   rintro s (rfl|rfl)
   ·unfold xz
    by_cases c:(20:Int) < (l.length:Int)
    ·left
     have r:=sym_ok hs (by omega) 5 0 20 l.length (by omega) (by omega) (wD _) (by omega);have r':F383 l 0 20 (l.length:Int) f=some ():=r;rw[if_pos c,qi (by decide) (by decide),ob,show(2:Int)*20=40 from rfl,e4,ob,qi (by decide) (by decide),ob,show(0:Int)+20=20 from rfl,if_pos c,r',ob];exact⟨40,rfl,.inr rfl,by decide⟩
    ·right
     rw[if_neg c];exact⟨_,rfl,trivial⟩
   ·right
    unfold xz;rw[if_neg (by omega)];exact⟨_,rfl,trivial⟩)
  rw[g1]
 unfold F373 F378;rw[e1,ob,e2,ob,e3,ob,ob]
theorem coll_pw{β:Type}{R:β→β→Prop}{f:Nat→List β}:∀ (n:Nat),(∀i,i < n→(f i).Pairwise R)→(∀i j,i < j→j < n→∀x∈f i,∀y∈f j,R x y)→(coll n f).Pairwise R
 |0,_,_=> by simp[coll]
 |n+1,h1,h2=> by
  rw[qN];refine yA.2 ⟨coll_pw n (fun i hi=> h1 i (by omega)) (fun i j hi hj=> h2 i j hi (by omega)),h1 n (by omega),fun x hx y hy=>?_⟩;obtain⟨i,hi,hx⟩:=jc.1 hx;exact h2 i n hi (by omega) x hx y hy
theorem jP{β:Type}{f:Nat→List β}{k:Nat}:∀ (n:Nat),(∀i,i < n→(f i).length≤k)→(coll n f).length≤n*k
 |0,_=> by simp[coll]
 |n+1,h=> by
  rw[qN,wI];have h1:=jP n fun i hi=> h i (by omega);have h2:=h n (by omega);rw[yP]; omega
def rp(b:GBar)(k:Int):List GBar:=List.replicate k.toNat b
theorem rp_len{b:GBar}{k:Int}:(rp b k).length=k.toNat:=yN
theorem rp_mem{b x:GBar}{k:Int}(h:x∈rp b k):x=b:=(List.mem_replicate.1 h).2
theorem rp_pw{b:GBar}{k:Int}:(rp b k).Pairwise Ble:=List.pairwise_replicate.2 (.inr (.inr ⟨rfl,.inr ⟨rfl,vW _⟩⟩))
theorem rp_snoc{b:GBar}(o:List GBar)(k:Nat):o++List.replicate k b++[b]=o++List.replicate (k+1) b:=by
 rw[wR,←List.replicate_succ']
theorem rep9{o:List GBar}{b:GBar}{k:Int}(ho:o.length≤10000000)(hk:k≤1000000)(h0: -1000000≤k):F377 o b k=some (o++rp b k):=by
 unfold F377;obtain⟨t,g1,g2⟩:=qA (S:=F377_S b) (fun s=> s.2.toNat) (fun s=>(∃i:Nat,s.1=o++List.replicate i b∧s.2+i=max k 0∧0≤s.2∨(s=(o,k)∧k≤0))) (fun t=> t=o++rp b k) (s:=(o,k)) (by
  rcases Int.le_total k 0 with h|h
  ·exact⟨0,.inr ⟨rfl,h⟩⟩
  ·exact⟨0,.inl ⟨by simp,by simp only; omega,h⟩⟩) (by
  rintro⟨s1,s2⟩ ⟨i,⟨h1,h2,h3⟩|⟨h1,h2⟩⟩
  ·simp only at h1 h2 h3; subst h1
   unfold F377_S;by_cases c:s2 > 0
   ·left
    rw[if_pos c,qW (by simp; omega) (by simp; omega),ob,qi (by simp only; omega) (by simp only; omega),ob];exact⟨_,rfl,⟨i+1,.inl ⟨rp_snoc _ _,by simp only; omega,by simp only; omega⟩⟩,by simp only; omega⟩
   ·right
    rw[if_neg c];refine⟨_,rfl,?_⟩;unfold rp;rw[show i=k.toNat by omega]
  ·cases h1
   right;unfold F377_S;rw[if_neg (by simp only; omega)];refine⟨_,rfl,?_⟩;unfold rp;rw[show k.toNat=0 by omega]; simp)
 rw[g1,g2]
theorem put9{o:List GBar}{a b c k:Int}(ho:o.length≤10000000)(hk:k≤1000000)(h0: -1000000≤k):F372 a b c k o=some (o++rp ⟨a,b,c⟩ k):=by
 unfold F372;rcases Int.le_total k 0 with h|h
 ·unfold forR
  rw[if_pos (by omega),show(k - 0).toNat=0 by omega];unfold rp;rw[show k.toNat=0 by omega,List.replicate_zero,vF]; rfl
 ·obtain⟨t,g1,g2⟩:=qo (B:=F372_1_B ⟨a,b,c⟩) (D:=F372_1_D) (hi:=k) k.toNat (by omega) (by omega) (fun i s=> s=o++List.replicate i ⟨a,b,c⟩) (fun t=> t=o++rp ⟨a,b,c⟩ k) (s:=o) (by simp) (by
   rintro i s hi rfl;left;unfold F372_1_B;rw[qW (by simp; omega) (by simp; omega),ob];exact⟨_,rfl,rp_snoc _ _⟩) (by
   rintro s rfl;exact⟨_,rfl,rfl⟩)
  rw[g1,g2]
structure BarsOK (x:GFiltered) (n:Nat) (R:Int→Int→Int) (Bd:Int→Int):Prop where
 bt:∀q s, -10≤q→q≤5→F258 x n q s=some (R q s)∧F259 x n q s=some (R q s)∧ -1000≤R q s∧R q s≤1000
 bd:∀s,∃B,F294 x n s=some B∧F296 x n s=some B∧(B.length:Int)=Bd s∧B.length≤8
def cn(R:Int→Int→Int)(b d:Int):Int:=R b (d - 1) - R b d - R (b - 1) (d - 1)+R (b - 1) d
def smm(R:Int→Int→Int)(d:Int):Nat→Int
 |0=> 0
 |i+1=> smm R d i+cn R i d
def blk(R:Int→Int→Int)(Bd:Int→Int)(n b:Nat):List GBar:=
 rp ⟨n,b,b⟩ (Bd b - Bd (b - 1) - smm R b b)++(coll (5 - b) fun k=> rp ⟨n,b,((b+1+k:Nat):Int)⟩ (cn R b ((b+1+k:Nat):Int)))++rp ⟨n,b, -1⟩ (R b 5 - R (b - 1) 5)
theorem cn_bd{x:GFiltered}{n:Nat}{R:Int→Int→Int}{Bd:Int→Int}(H:BarsOK x n R Bd){b d:Int}(h0:0≤b)(h5:b≤5): -4000≤cn R b d∧cn R b d≤4000:=by
 have h1:=(H.bt b (d - 1) (by omega) h5).2.2;have h2:=(H.bt b d (by omega) h5).2.2;have h3:=(H.bt (b - 1) (d - 1) (by omega) (by omega)).2.2;have h4:=(H.bt (b - 1) d (by omega) (by omega)).2.2;unfold cn; omega
theorem smm_bd{x:GFiltered}{n:Nat}{R:Int→Int→Int}{Bd:Int→Int}(H:BarsOK x n R Bd){d:Int}:∀i:Nat,i≤6→ -(4000*(i:Int))≤smm R d i∧smm R d i≤4000*i
 |0,_=> by simp[smm]
 |i+1,h=> by
  have h1:=smm_bd H (d:=d) i (by omega);have h2:=cn_bd H (b:=i) (d:=d) (by omega) (by omega);simp only[smm]; omega
theorem count9{x:GFiltered}{n:Nat}{R:Int→Int→Int}{Bd:Int→Int}(H:BarsOK x n R Bd){b d:Int}(h0:0≤b)(h5:b≤5)(hd: -100≤d∧d≤100):F376 x n b d=some (cn R b d):=by
 obtain⟨a1, -,a2⟩:=H.bt b (d - 1) (by omega) h5;obtain⟨b1, -,b2⟩:=H.bt b d (by omega) h5;obtain⟨c1, -,c2⟩:=H.bt (b - 1) (d - 1) (by omega) (by omega);obtain⟨d1, -,d2⟩:=H.bt (b - 1) d (by omega) (by omega);unfold F376;rw[qi (by omega) (by omega),ob,a1,ob,b1,ob,qi (by omega) (by omega),ob,qi (by omega) (by omega),ob,c1,ob,qi (by omega) (by omega),ob,d1,ob,qi (by omega) (by omega),ob];rfl
theorem short9{x:GFiltered}{n:Nat}{R:Int→Int→Int}{Bd:Int→Int}(H:BarsOK x n R Bd){b:Nat}(hb:b≤5){s0:Int}(hs: -100≤s0∧s0≤100):forR 0 (b:Int) (F371_3_B x n b) F371_3_D s0=some (s0 - smm R b b):=by
 obtain⟨t,g1,g2⟩:=qo (B:=F371_3_B x n b) (D:=F371_3_D) (hi:=(b:Int)) b rfl (by omega) (fun i s=> s=s0 - smm R b i) (fun t=> t=s0 - smm R b b) (s:=s0) (by simp[smm]) (by
  rintro i s hi rfl;left;unfold F371_3_B;have h1:=smm_bd H (d:=b) i (by omega);have h2:=cn_bd H (b:=i) (d:=b) (by omega) (by omega);rw[count9 H (by omega) (by omega) (by omega),ob,qi (by omega) (by omega),ob];exact⟨_,rfl,by simp only[smm]; omega⟩) (by
  rintro s rfl;exact⟨_,rfl,rfl⟩)
 rw[g1,g2]
theorem later9{x:GFiltered}{n:Nat}{R:Int→Int→Int}{Bd:Int→Int}(H:BarsOK x n R Bd){b:Nat}(hb:b≤5){o:List GBar}(ho:o.length≤6000000):qB (F371_4_S x n b) (o,((b+1:Nat):Int))=some (o++coll (5 - b) fun k=> rp ⟨n,b,((b+1+k:Nat):Int)⟩ (cn R b ((b+1+k:Nat):Int))):=by
 have hbd:∀i,i≤5→(coll i fun k=> rp ⟨n,b,((b+1+k:Nat):Int)⟩ (cn R b ((b+1+k:Nat):Int))).length≤i*4000:=fun i _=> jP i fun k _=> by
  have:=cn_bd H (b:=b) (d:=((b+1+k:Nat):Int)) (by omega) (by omega);rw[rp_len]; omega
 obtain⟨t,g1,g2⟩:=qA (S:=F371_4_S x n b) (fun s=> 10 - s.2.toNat) (fun s=>∃i:Nat,i≤5 - b∧s=(o++coll i (fun k=> rp ⟨n,b,((b+1+k:Nat):Int)⟩ (cn R b ((b+1+k:Nat):Int))),((b+1+i:Nat):Int))) (fun t=> t=o++coll (5 - b) fun k=> rp ⟨n,b,((b+1+k:Nat):Int)⟩ (cn R b ((b+1+k:Nat):Int))) (s:=(o,((b+1:Nat):Int))) ⟨0,by omega,by simp[coll]⟩ (by
  rintro s ⟨i,hi,rfl⟩;unfold F371_4_S;simp only;have hl:=hbd i (by omega);by_cases c:((b+1+i:Nat):Int)≤5
  ·left
   have h2:=cn_bd H (b:=b) (d:=((b+1+i:Nat):Int)) (by omega) (by omega);rw[if_pos c,count9 H (by omega) (by omega) (by omega),ob,rep9 (by rw[wI]; omega) (by omega) (by omega),ob,qi (by omega) (by omega),ob];exact⟨_,rfl,⟨i+1,by omega,by rw[qN,wR]; rfl⟩,by simp only; omega⟩
  ·right
   rw[if_neg c];exact⟨_,rfl,by rw[show i=5 - b by omega]⟩)
 rw[g1,g2]
theorem blk_len{x:GFiltered}{n:Nat}{R:Int→Int→Int}{Bd:Int→Int}(H:BarsOK x n R Bd){b:Nat}(hb:b≤5):(blk R Bd n b).length≤60000:=by
 obtain⟨B1, -, -,e1,l1⟩:=H.bd b;obtain⟨B2, -, -,e2,l2⟩:=H.bd (b - 1);have h1:=smm_bd H (d:=b) b (by omega);have h2:(coll (5 - b) fun k=> rp ⟨n,b,((b+1+k:Nat):Int)⟩ (cn R b ((b+1+k:Nat):Int))).length≤(5 - b)*4000:=jP _ fun k _=> by
  have:=cn_bd H (b:=b) (d:=((b+1+k:Nat):Int)) (by omega) (by omega);rw[rp_len]; omega
 have h3:=(H.bt b 5 (by omega) (by omega)).2.2;have h4:=(H.bt (b - 1) 5 (by omega) (by omega)).2.2;unfold blk;rw[wI,wI,rp_len,rp_len];omega
theorem spec9{x:GFiltered}{n:Nat}{R:Int→Int→Int}{Bd:Int→Int}(H:BarsOK x n R Bd){o:List GBar}(ho:o.length≤4000000):qB (F371_2_S x n) (o,0)=some (o++coll 6 (blk R Bd n)):=by
 have hbd:∀i,i≤6→(coll i (blk R Bd n)).length≤i*60000:=fun i hi=> jP i fun k hk=> blk_len H (by omega);obtain⟨t,g1,g2⟩:=qA (S:=F371_2_S x n) (fun s=> 10 - s.2.toNat) (fun s=>∃i:Nat,i≤6∧s=(o++coll i (blk R Bd n),(i:Int))) (fun t=> t=o++coll 6 (blk R Bd n)) (s:=(o,0)) ⟨0,by omega,by simp[coll]⟩ (by
  rintro s ⟨b,hi,rfl⟩;unfold F371_2_S;simp only;have hl:=hbd b hi;by_cases c:(b:Int)≤5
  ·left
   obtain⟨B1,p1, -,e1,l1⟩:=H.bd b;obtain⟨B2,p2, -,e2,l2⟩:=H.bd (b - 1);have h1:=smm_bd H (d:=b) b (by omega);obtain⟨y1, -,h3⟩:=H.bt b 5 (by omega) (by omega);obtain⟨y2, -,h4⟩:=H.bt (b - 1) 5 (by omega) (by omega);have hc:(coll (5 - b) fun k=> rp ⟨n,b,((b+1+k:Nat):Int)⟩ (cn R b ((b+1+k:Nat):Int))).length≤(5 - b)*4000:=jP _ fun k _=> by
    have:=cn_bd H (b:=b) (d:=((b+1+k:Nat):Int)) (by omega) (by omega);rw[rp_len]; omega
   rw[if_pos c,p1,ob,qi (by omega) (by omega),ob,p2,ob,qi (by omega) (by omega),ob,short9 H (by omega) (by omega),ob,e1,e2,
    rep9 (by rw[wI]; omega) (by omega) (by omega),ob,qi (by omega) (by omega),ob,show(b:Int)+1=((b+1:Nat):Int) by omega,later9 H (by omega) (by rw[wI,wI,rp_len]; omega),ob,y1,ob,y2,ob,qi (by omega) (by omega),ob,
    rep9 (by rw[wI,wI,wI,rp_len]; omega) (by omega) (by omega),ob]
   refine⟨_,rfl,⟨b+1,by omega,?_⟩,by simp only; omega⟩;rw[qN];unfold blk;simp only[wR]
  ·right
   rw[if_neg c];exact⟨_,rfl,by rw[show b=6 by omega]⟩)
 rw[g1,g2]
theorem get_set{l:List Int}{i j:Nat}{v:Int}(h:i < l.length):(l.set i v).getD j 0=if j=i then v else l.getD j 0:=by
 rw[List.getD_eq_getElem?_getD,List.getD_eq_getElem?_getD,List.getElem?_set];by_cases c:i=j
 ·subst c; simp[h]
 ·rw[if_neg c,if_neg (yF c)]
theorem more9{x:GFiltered}{n:Nat}{R:Int→Int→Int}{Bd:Int→Int}(H:BarsOK x n R Bd){b:Nat}(hb:b≤5){o:List GBar}(ho:o.length≤6000000){z:List Int}(hz:z.length=6)(hv:∀d:Nat,b < d→d < 6→z.getD d 0=smm R d b):
  ∃z',qB (F367_3_S x n b (b - 1)) ((o,z),((b+1:Nat):Int))=some (o++(coll (5 - b) fun k=> rp ⟨n,b,((b+1+k:Nat):Int)⟩ (cn R b ((b+1+k:Nat):Int))),z')∧z'.length=6∧∀d:Nat,b < d→d < 6→z'.getD d 0=smm R d (b+1):=by
 have hbd:∀i,i≤5→(coll i fun k=> rp ⟨n,b,((b+1+k:Nat):Int)⟩ (cn R b ((b+1+k:Nat):Int))).length≤i*4000:=fun i _=> jP i fun k _=> by
  have:=cn_bd H (b:=b) (d:=((b+1+k:Nat):Int)) (by omega) (by omega);rw[rp_len]; omega
 obtain⟨t,g1,z',rfl,g2⟩:=qA (S:=F367_3_S x n b (b - 1)) (fun s=> 10 - s.2.toNat) (fun s=>∃ (i:Nat) (z':List Int),i≤5 - b∧s=((o++coll i (fun k=> rp ⟨n,b,((b+1+k:Nat):Int)⟩ (cn R b ((b+1+k:Nat):Int))),z'),((b+1+i:Nat):Int))∧z'.length=6∧∀d:Nat,b < d→d < 6→z'.getD d 0=if d < b+1+i then smm R d (b+1)else smm R d b)
  (fun t=>∃z',t=(o++coll (5 - b) (fun k=> rp ⟨n,b,((b+1+k:Nat):Int)⟩ (cn R b ((b+1+k:Nat):Int))),z')∧z'.length=6∧∀d:Nat,b < d→d < 6→z'.getD d 0=smm R d (b+1)) (s:=((o,z),((b+1:Nat):Int))) ⟨0,z,by omega,by simp[coll],hz,fun d h1 h2=> by rw[if_neg (by omega)]; exact hv d h1 h2⟩ (by
  rintro s ⟨i,z',hi,rfl,hz',hv'⟩;unfold F367_3_S;simp only;have hl:=hbd i (by omega);by_cases c:((b+1+i:Nat):Int)≤5
  ·left
   have h2:=cn_bd H (b:=b) (d:=((b+1+i:Nat):Int)) (by omega) (by omega);obtain⟨-,r1,s1⟩:=H.bt b (((b+1+i:Nat):Int) - 1) (by omega) (by omega);obtain⟨-,r2,s2⟩:=H.bt b ((b+1+i:Nat):Int) (by omega) (by omega);obtain⟨-,r3,s3⟩:=H.bt (b - 1) (((b+1+i:Nat):Int) - 1) (by omega) (by omega);obtain⟨-,r4,s4⟩:=H.bt (b - 1) ((b+1+i:Nat):Int) (by omega) (by omega);have hd:=hv' (b+1+i) (by omega) (by omega);rw[if_neg (by omega)]at hd;have hsm:=smm_bd H (d:=((b+1+i:Nat):Int)) b (by omega);rw[if_pos c,qi (by omega) (by omega),ob,r1,ob,r2,ob,qi (by omega) (by omega),ob,r3,ob,qi (by omega) (by omega),ob,r4,ob,qi (by omega) (by omega),ob];unfold cn at h2;rw[put9 (by rw[wI]; omega) (by omega) (by omega),ob,qn (show b+1+i < z'.length by omega) 0,ob,hd,qi (by omega) (by omega),ob,qU (show b+1+i < z'.length by omega),ob,qi (by omega) (by omega),ob];refine⟨_,rfl,⟨i+1,_,by omega,by rw[qN,wR]; rfl,by rw[vA]; exact hz',fun d h1 h2=>?_⟩,by simp only; omega⟩;rw[get_set (by omega)];by_cases e:d=b+1+i
   ·rw[if_pos e,if_pos (by omega),e]; rfl
   ·rw[if_neg e,hv' d h1 h2]
    by_cases e2:d < b+1+i
    ·rw[if_pos e2,if_pos (by omega)]
    ·rw[if_neg e2,if_neg (by omega)]
  ·right
   rw[if_neg c];exact⟨_,rfl,z',by rw[show i=5 - b by omega],hz',fun d h1 h2=> by rw[hv' d h1 h2,if_pos (by omega)]⟩)
 exact⟨z',g1,g2.1,g2.2⟩
theorem prog9{x:GFiltered}{n:Nat}{R:Int→Int→Int}{Bd:Int→Int}(H:BarsOK x n R Bd){o:List GBar}(ho:o.length≤4000000):F367_1_B x n o=some (.inl (o++coll 6 (blk R Bd n))):=by
 have hbd:∀i,i≤6→(coll i (blk R Bd n)).length≤i*60000:=fun i hi=> jP i fun k hk=> blk_len H (by omega);have hm:mkL 8 6 (0:Int)=some (List.replicate 6 0):=rfl;unfold F367_1_B;rw[hm,ob];obtain⟨t,g1,z,rfl⟩:=qo (B:=F367_2_B x n) (D:=F367_2_D) (hi:=6) 6 rfl (by decide) (fun i s=>∃z:List Int,s=(o++coll i (blk R Bd n),z)∧z.length=6∧∀d:Nat,i≤d→d < 6→z.getD d 0=smm R d i) (fun t=>∃z:List Int,t=(o++coll 6 (blk R Bd n),z)) (s:=(o,List.replicate 6 0)) ⟨List.replicate 6 0,by simp[coll],by simp,fun d h1 h2=> by rw[List.getD_eq_getElem?_getD,List.getElem?_replicate,if_pos h2]; rfl⟩ (by
  rintro b s hb ⟨z,rfl,hz,hv⟩;left;unfold F367_2_B;simp only;have hl:=hbd b (by omega);obtain⟨B1, -,p1,e1,l1⟩:=H.bd b;obtain⟨B2, -,p2,e2,l2⟩:=H.bd (b - 1);have h1:=smm_bd H (d:=b) b (by omega);obtain⟨-,y1,h3⟩:=H.bt b 5 (by omega) (by omega);obtain⟨-,y2,h4⟩:=H.bt (b - 1) 5 (by omega) (by omega);have hc:(coll (5 - b) fun k=> rp ⟨n,b,((b+1+k:Nat):Int)⟩ (cn R b ((b+1+k:Nat):Int))).length≤(5 - b)*4000:=jP _ fun k _=> by
   have:=cn_bd H (b:=b) (d:=((b+1+k:Nat):Int)) (by omega) (by omega);rw[rp_len]; omega
  have hd:=hv b (wD _) hb;obtain⟨z',m1,m2,m3⟩:=more9 H (b:=b) (by omega) (o:=o++coll b (blk R Bd n)++rp ⟨n,b,b⟩ (Bd b - Bd (b - 1) - smm R b b)) (by rw[wI,wI,rp_len]; omega) hz (fun d a1 a2=> hv d (by omega) a2);rw[p1,ob,qi (by omega) (by omega),ob,p2,ob,qi (by omega) (by omega),ob,qn (show b < z.length by omega) 0,ob,hd,e1,e2,qi (by omega) (by omega),ob,
   put9 (by rw[wI]; omega) (by omega) (by omega),ob,qi (by omega) (by omega),ob,show(b:Int)+1=((b+1:Nat):Int) by omega,m1,ob,y1,ob,y2,ob,qi (by omega) (by omega),ob,
   put9 (by rw[wI,wI,wI,rp_len]; omega) (by omega) (by omega),ob]
  refine⟨_,rfl,z',?_,m2,fun d a1 a2=> m3 d (by omega) a2⟩;rw[qN];unfold blk;simp only[wR]) (by
  rintro s ⟨z,rfl, -⟩;exact⟨_,rfl,z,rfl⟩)
 rw[g1,ob]
theorem blk_mem{n:Nat}{R:Int→Int→Int}{Bd:Int→Int}{b:Nat}{y:GBar}(h:y∈blk R Bd n b):y.Degree=n∧y.Birth=b:=by
 unfold blk at h;rcases wO.1 h with h|h
 ·rcases wO.1 h with h|h
  ·rw[rp_mem h]; exact⟨rfl,rfl⟩
  ·obtain⟨k, -,h⟩:=jc.1 h
   rw[rp_mem h]; exact⟨rfl,rfl⟩
 ·rw[rp_mem h]; exact⟨rfl,rfl⟩
theorem blk_pw{n:Nat}{R:Int→Int→Int}{Bd:Int→Int}{b:Nat}(hb:b≤5):(blk R Bd n b).Pairwise Ble:=by
 have same:∀ {c d:Int},kd c≤kd d→Ble ⟨n,b,c⟩ ⟨n,b,d⟩:=fun h=> .inr ⟨rfl,.inr ⟨rfl,h⟩⟩;unfold blk;refine yA.2 ⟨yA.2 ⟨rp_pw,coll_pw _ (fun _ _=> rp_pw) (fun i j hi hj y hy z hz=>?_),fun y hy z hz=>?_⟩,rp_pw,fun y hy z hz=>?_⟩
 ·rw[rp_mem hy,rp_mem hz]; exact same (by unfold kd; rw[if_neg (by omega),if_neg (by omega)]; omega)
 ·obtain⟨k, -,hz⟩:=jc.1 hz
  rw[rp_mem hy,rp_mem hz]; exact same (by unfold kd; rw[if_neg (by omega),if_neg (by omega)]; omega)
 ·rw[rp_mem hz]
  rcases wO.1 hy with h|h
  ·rw[rp_mem h]; exact same (by unfold kd; rw[if_neg (by omega),if_pos (by decide)]; omega)
  ·obtain⟨k,hk,h⟩:=jc.1 h
   rw[rp_mem h]; exact same (by unfold kd; rw[if_neg (by omega),if_pos (by decide)]; omega)
theorem ble_refl(y:GBar):Ble y y:= .inr ⟨rfl,.inr ⟨rfl,vW _⟩⟩
theorem list9{x:GFiltered}{N:Nat}(hN:N≤10){R:Nat→Int→Int→Int}{Bd:Nat→Int→Int}(H:∀n,n < N→BarsOK x n (R n) (Bd n)):
  forR 0 (N:Int) (F371_1_B x) F371_1_D []=some (coll N fun n=> coll 6 (blk (R n) (Bd n) n))∧forR 0 (N:Int) (F367_1_B x) F367_1_D []=some (coll N fun n=> coll 6 (blk (R n) (Bd n) n))∧(coll N fun n=> coll 6 (blk (R n) (Bd n) n)).Pairwise Ble:=by
 have hbd:∀i,i≤N→(coll i fun n=> coll 6 (blk (R n) (Bd n) n)).length≤i*360000:=fun i hi=> jP i fun k hk=> by
  have:=jP (f:=blk (R k) (Bd k) k) (k:=60000) 6 fun b hb=> blk_len (H k (by omega)) (by omega);omega
 refine⟨?_,?_,?_⟩
 ·obtain⟨t,g1,g2⟩:=qo (B:=F371_1_B x) (D:=F371_1_D) (hi:=(N:Int)) N rfl (by omega) (fun i s=> s=coll i fun n=> coll 6 (blk (R n) (Bd n) n)) (fun t=> t=coll N fun n=> coll 6 (blk (R n) (Bd n) n)) (s:=[]) (by simp[coll]) (by
   rintro i s hi rfl;left;have hl:=hbd i (by omega);unfold F371_1_B;rw[spec9 (H i hi) (by omega),ob];exact⟨_,rfl,by rw[qN i]⟩) (by
   rintro s rfl;exact⟨_,rfl,rfl⟩)
  rw[g1,g2]
 ·obtain⟨t,g1,g2⟩:=qo (B:=F367_1_B x) (D:=F367_1_D) (hi:=(N:Int)) N rfl (by omega) (fun i s=> s=coll i fun n=> coll 6 (blk (R n) (Bd n) n)) (fun t=> t=coll N fun n=> coll 6 (blk (R n) (Bd n) n)) (s:=[]) (by simp[coll]) (by
   rintro i s hi rfl;left;have hl:=hbd i (by omega);rw[prog9 (H i hi) (by omega)];exact⟨_,rfl,by rw[qN i]⟩) (by
   rintro s rfl;exact⟨_,rfl,rfl⟩)
  rw[g1,g2]
 ·refine coll_pw N (fun n hn=> coll_pw 6 (fun b hb=> blk_pw (by omega)) fun b c hbc hc y hy z hz=>?_) fun n m hnm hm y hy z hz=>?_
  ·obtain⟨h1,h2⟩:=blk_mem hy
   obtain⟨h3,h4⟩:=blk_mem hz;exact .inr ⟨by rw[h1,h3],.inl (by rw[h2,h4]; omega)⟩
  ·obtain⟨b, -,hy⟩:=jc.1 hy
   obtain⟨c, -,hz⟩:=jc.1 hz;exact .inl (by rw[(blk_mem hy).1,(blk_mem hz).1]; omega)
theorem between_bd{x:GFiltered}(hs:qX x)(h:zb x){n:Nat}(hn:n < x.Levels.length){q s:Int}(hq: -10≤q∧q≤5):∃v,F258 x (n:Int) q s=some v∧F259 x (n:Int) q s=some v∧ -1000≤v∧v≤1000:=by
 have hp:=h.vc.p;have hd:=jO h hn;unfold F258 F259;by_cases c:q < 0
 ·rw[if_pos c,if_pos c]; exact⟨_,rfl,rfl,by decide,by decide⟩
 rw[if_neg c,if_neg c];obtain⟨b1,b2⟩:=bdl_ok h (n:=n) (s:=s);obtain⟨B,r1,r2,r3⟩:=qK hp b1 (by omega) (by omega);obtain⟨K,N,k1,m1,n1,n3⟩:=meet_near hs h hn hq;have hBl:=zK r3.red;have hNl:=zK n3;have hr:Rows x.Complex.Prime (dm x n) (N++B):=fun r hr=> by
  rcases wO.1 hr with q|q
  ·exact n3.ok r q
  ·exact r3.red.ok r q
 obtain⟨E,e1,e2,e3⟩:=qK hp hr (by omega) (by rw[wI]; omega);have hEl:=zK e3.red;rw[F99_dm hs h hn,ob,k1,ob,space_eq hs h hn,ob,m1,ob,F294_eq hs h hn,r1,ob,F296_eq hs h hn,r2,ob,n1,ob,concat2 (by omega) (by omega),ob,e2,ob];have e5:F295 x.Complex.Prime N B=some E:=by
  unfold F295;rw[qW (by simp; omega) (by simp; omega),ob,vS,qW (by omega) (by omega),ob,e1,ob]
 rw[e5,ob,qi (by omega) (by omega),ob];exact⟨_,rfl,rfl,by omega,by omega⟩
theorem bars_ok{x:GFiltered}(hs:qX x)(h:zb x){n:Nat}(hn:n < x.Levels.length):BarsOK x n (fun q s=>(F258 x (n:Int) q s).getD 0) (fun s=>(((F294 x (n:Int) s).getD []).length:Int)):=by
 refine⟨fun q s h1 h2=>?_,fun s=>?_⟩
 ·obtain⟨v,v1,v2,v3⟩:=between_bd hs h hn (q:=q) (s:=s) ⟨h1,h2⟩
  rw[v1,v2]; exact⟨rfl,rfl,v3⟩
 ·obtain⟨b1,b2⟩:=bdl_ok h (n:=n) (s:=s)
  have hd:=jO h hn;obtain⟨B,r1,r2,r3⟩:=qK h.vc.p b1 (by omega) (by omega);have hBl:=zK r3.red;rw[F294_eq hs h hn,F296_eq hs h hn,r1,r2];exact⟨B,rfl,rfl,rfl,by omega⟩
theorem bars_same{x:GFiltered}(hs:qX x):∃w c,F366 x=some ⟨w,c⟩∧F367 x=some ⟨w,c⟩∧w.length≤24:=by
 obtain⟨b,d1,d2,d3⟩:=(F38_tells hs).same (F41_tells hs);unfold F366 F367;rw[d1,d2,ob,ob];cases b with
 |false=> exact⟨_,_,rfl,rfl,by simp⟩
 |true=>
  have hv:=d3.1 rfl;have hll:=hv.ll;have hdl:=hv.vc.dl;obtain⟨l1,l2,l3⟩:=list9 (x:=x) (N:=x.Levels.length) (by omega) (R:=fun n q s=>(F258 x (n:Int) q s).getD 0) (Bd:=fun n s=>(((F294 x (n:Int) s).getD []).length:Int)) fun n hn=> bars_ok hs hv hn;rw[if_pos rfl,if_pos rfl];unfold F371;rw[←hll,l1,l2,ob,ob];by_cases c:24 < ((coll x.Levels.length fun n=> coll 6 (blk (fun q s=>(F258 x (n:Int) q s).getD 0) (fun s=>(((F294 x (n:Int) s).getD []).length:Int)) n)).length:Int)
  ·rw[if_pos c,if_pos c]; exact⟨_,_,rfl,rfl,by simp⟩
  ·have e:=stable_ok (srt_of l3 fun y _=> ble_refl y) (by omega)
   rw[if_neg c,if_neg c,show(fun x y=> F374 x y)=F374 from rfl,e,ob];exact⟨_,_,rfl,rfl,by omega⟩
theorem FM369_mk{l:List GBar}(h:l.length≤24):∃t,FM369 l 1=some t∧F370 t.1 1=some t.2∧¬t.2 < 0:=by
 obtain⟨t,g1,g2,g3,g4⟩:=qo (B:=F369_1_B) (D:=F369_1_D) (hi:=(l.length:Int)) l.length rfl (by omega) (fun i s=> s.1.length=l.length∧s.2=1+3*(i:Int)∧∀j,j < i→s.1[j]? =some ⟨1+3*(j:Int),1+3*(j:Int)+1,1+3*(j:Int)+1+1⟩)
  (fun t=> t.1.length=l.length∧t.2=1+3*(l.length:Int)∧∀j,j < l.length→t.1[j]? =some ⟨1+3*(j:Int),1+3*(j:Int)+1,1+3*(j:Int)+1+1⟩) (s:=(l,1)) ⟨rfl,rfl,fun j hj=> absurd hj (yK _)⟩ (by
  rintro i ⟨s,k⟩ hi ⟨h1,h2,h3⟩;left;simp only at h1 h2 h3; subst h2;unfold F369_1_B;simp only;rw[qg (show i < s.length by omega),ob,qi (by omega) (by omega),ob,qi (by omega) (by omega),ob,qi (by omega) (by omega),ob];refine⟨_,rfl,by simp only[vA]; exact h1,by simp only; omega,fun j hj=>?_⟩;simp only[wM,List.getElem?_set];by_cases e:i=j
  ·subst e; rw[if_pos rfl,if_pos (by omega)]
  ·rw[if_neg e]; exact h3 j (by omega)) (by
  rintro⟨s,k⟩ ⟨h1,h2,h3⟩;exact⟨_,rfl,h1,h2,h3⟩)
 refine⟨t,g1,?_,by omega⟩;unfold F370;obtain⟨t',k1,k2⟩:=qo (B:=F370_1_B t.1) (D:=F370_1_D t.1) (hi:=(t.1.length:Int)) l.length (by omega) (by omega) (fun i s=> s=1+3*(i:Int)) (fun t'=> t'= .inl t.2) (s:=1) rfl (by
  rintro i s hi rfl;left;unfold F370_1_B;have e:=g4 i hi;have e':getI t.1 (i:Int)=some ⟨1+3*(i:Int),1+3*(i:Int)+1,1+3*(i:Int)+1+1⟩:=by
   unfold getI; rw[if_pos (by omega),wM,e]
  rw[e',ob,if_pos rfl,qi (by omega) (by omega),ob,if_pos rfl,qi (by omega) (by omega),ob,if_pos rfl,qi (by omega) (by omega),ob];exact⟨_,rfl,by omega⟩) (by
  rintro s rfl;exact⟨_,rfl,by rw[g3]⟩)
 rw[k1,ob,k2]
theorem F368_same{l:List GBar}(h:l.length≤24):F368 l l=some true:=by
 unfold F368;rw[if_pos rfl];obtain⟨t,g1,g2⟩:=qo (B:=F368_1_B l l) (D:=F368_1_D l l) (hi:=(l.length:Int)) l.length rfl (by omega) (fun _ _=> True) (fun t=> t= .inl ()) (s:=()) trivial (by
  rintro i s hi -;left;unfold F368_1_B;have e:F375 l[i] l[i]=some true:=by
   unfold F375;rw[if_pos rfl,if_pos rfl];simp
  rw[qg hi,ob,ob,e,ob,if_pos rfl];exact⟨_,rfl,trivial⟩) (by
  rintro s -;exact⟨_,rfl,rfl⟩)
 rw[g1,g2]; rfl
theorem law50{x:GFiltered}(hx:LongF x):L388 x:=by
 unfold L388;obtain⟨z,a1,a2⟩:=F37_eq hx (s:=1048576) (by decide) (by decide);rcases a2 with a2|⟨a2,a3,hx'⟩
 ·exact .inl ⟨z,a1,a2⟩
 obtain⟨w,c,s1,s2,s3⟩:=bars_same hx';obtain⟨m0,e1,e2⟩:=FM26_m hx';obtain⟨mg,g1,g2,g3⟩:=FM369_mk s3;exact .inr ⟨z,x,w,c,m0,mg,a1,by omega,F40_eq hx',s1,s2,F368_same s3,F25_same hx',e1,e2,g1,g2,g3⟩
end Rv
