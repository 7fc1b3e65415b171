/- The plain law: what the typed functions answer: part 2 -/
import Derived.Test.YtadnnniccgdigaaGreatPgq0
namespace Rv
set_option linter.unusedVariables false
set_option linter.unusedSimpArgs false
set_option maxRecDepth 10000
theorem forI_inv{σ τ:Type}{B:Int→σ→Option (σ⊕τ)}{D:Int→σ→Option τ}(Inv:Nat→σ→Prop)(Q:τ→Prop)(n:Nat):
  ∀ (k i:Nat) (s:σ),i+k=n→Inv i s→(∀i s,i < n→Inv i s→(∃s',B i s=some (.inl s')∧Inv (i+1) s')∨∃t,B i s=some (.inr t)∧Q t)→(∀s,Inv n s→∃t,D n s=some t∧Q t)→∃t,forI B D k i s=some t∧Q t:=by
 intro k;induction k with
 |zero=>
  intro i s hk hI hb hd;have:i=n:=by omega
  subst this;exact hd s hI
 |succ k ih=>
  intro i s hk hI hb hd;simp only[forI];rcases hb i s (by omega) hI with⟨s',h1,h2⟩|⟨t,h1,h2⟩
  ·rw[h1]
   have:=ih (i+1) s' (by omega) h2 hb hd;simpa using this
  ·rw[h1]; exact⟨t,rfl,h2⟩
theorem qz{σ τ:Type}{B:Int→σ→Option (σ⊕τ)}{D:Int→σ→Option τ}{hi:Int}(n:Nat)(hn:hi=n)(hs:n < 4611686018427387904)(Inv:Nat→σ→Prop)(Q:τ→Prop){s:σ}(h0:Inv 0 s)
  (hb:∀ (i:Nat) s,i < n→Inv i s→(∃s',B i s=some (.inl s')∧Inv (i+1) s')∨∃t,B i s=some (.inr t)∧Q t) (hd:∀s,Inv n s→∃t,D n s=some t∧Q t):∃t,forR 0 hi B D s=some t∧Q t:=by
 subst hn;unfold forR;rw[if_pos (by omega)];have e:((n:Int) - 0).toNat=n:=by omega
 rw[e];exact forI_inv Inv Q n n 0 s (by omega) h0 hb hd
theorem forR_from{σ τ:Type}{B:Int→σ→Option (σ⊕τ)}{D:Int→σ→Option τ}{lo hi:Int}(l n:Nat)(hl:lo=l)(hn:hi=n)(hln:l≤n)(hs:n < 4611686018427387904)(Inv:Nat→σ→Prop)(Q:τ→Prop){s:σ}(h0:Inv l s)
  (hb:∀ (i:Nat) s,i < n→Inv i s→(∃s',B i s=some (.inl s')∧Inv (i+1) s')∨∃t,B i s=some (.inr t)∧Q t) (hd:∀s,Inv n s→∃t,D n s=some t∧Q t):∃t,forR lo hi B D s=some t∧Q t:=by
 subst hn; subst hl;unfold forR;rw[if_pos (by omega)];have e:((n:Int) - (l:Int)).toNat=n - l:=by omega
 rw[e];exact forI_inv Inv Q n (n - l) l s (by omega) h0 hb hd
theorem qX{σ τ:Type}{S:σ→Option (σ⊕τ)}(μ:σ→Nat)(Inv:σ→Prop)(Q:τ→Prop){s:σ}(h0:Inv s)
  (hb:∀s,Inv s→(∃s',S s=some (.inl s')∧Inv s'∧μ s' < μ s)∨∃t,S s=some (.inr t)∧Q t):∃t,qY S s=some t∧Q t:=by
 suffices∀k s,μ s≤k→Inv s→∃t,qY S s=some t∧Q t from this _ s (wD _) h0
 intro k;induction k with
 |zero=>
  intro s hk hI;rcases hb s hI with⟨s',h1,h2,h3⟩|⟨t,h1,h2⟩
  ·omega
  ·exact⟨t,loopW_eq.2 (.inr h1),h2⟩
 |succ k ih=>
  intro s hk hI;rcases hb s hI with⟨s',h1,h2,h3⟩|⟨t,h1,h2⟩
  ·obtain⟨t,h4,h5⟩:=ih s' (by omega) h2
   exact⟨t,loopW_eq.2 (.inl ⟨s',h1,h4⟩),h5⟩
  ·exact⟨t,loopW_eq.2 (.inr h1),h2⟩
theorem qn{α:Type}{l:List α}{i:Nat}(h:i < l.length):getI l (i:Int)=some l[i]:=by
 unfold getI;rw[if_pos (by omega)];simp[h]
theorem qp{α:Type}{l:List α}{i:Nat}(h:i < l.length)(d:α):getI l (i:Int)=some (l.getD i d):=by
 rw[qn h]; simp[h]
theorem qk{n:Int}(h0: -9223372036854775808≤n)(h1:n < 9223372036854775808):chk n=some n:=by
 unfold chk; rw[if_pos ⟨h0,h1⟩]
theorem zi{α:Type}{l:List α}{i:Nat}(h:i < l.length)(y:α):setI l (i:Int) y=some (l.set i y):=by
 unfold setI;rw[if_pos (by omega),vA]
theorem xH{a b:Int}(h:b≠0):remI a b=some (a.tmod b):=by unfold remI; rw[if_neg h]
theorem mkL_ok{α:Type}{b:Nat}{n:Int}{z:α}(k:Nat)(hn:n=k)(h:k*b≤1099511627776)(h2:k≤1099511627776):mkL b n z=some (List.replicate k z):=by
 subst hn;unfold mkL;rw[if_pos ⟨by omega,by omega,by omega⟩,vA]
theorem qH{α:Type}{b:Nat}{l l':List α}(h:(l.length+l'.length)*b≤1099511627776)(h2:l.length+l'.length≤1099511627776):app b l l'=some (l++l'):=by
 unfold app; rw[if_pos ⟨h,h2⟩]
def xh(o:Option Bool)(P:Prop):Prop:=∃b,o=some b∧(b=true↔P)
theorem xh.of_true{o:Option Bool}{P:Prop}(h:o=some true)(p:P):xh o P:=⟨true,h,by simp[p]⟩
theorem xh.of_false{o:Option Bool}{P:Prop}(h:o=some false)(p:¬P):xh o P:=⟨false,h,by simp[p]⟩
theorem xh.iff{o:Option Bool}{P Q:Prop}(h:xh o P)(e:P↔Q):xh o Q:=by
 obtain⟨b,h1,h2⟩:=h; exact⟨b,h1,h2.trans e⟩
theorem xh.same{o o':Option Bool}{P:Prop}(h:xh o P)(h':xh o' P):∃b,o=some b∧o'=some b∧(b=true↔P):=by
 obtain⟨b,h1,h2⟩:=h;obtain⟨b',h3,h4⟩:=h';have:b=b':=by rw[uD]; exact h2.trans h4.symm
 exact⟨b,h1,by rw[this]; exact h3,h2⟩
theorem xh.case{o:Option Bool}{P:Prop}(h:xh o P):(o=some true∧P)∨(o=some false∧¬P):=by
 obtain⟨b,h1,h2⟩:=h;cases b with
 |true=> exact .inl ⟨h1,h2.1 rfl⟩
 |false=> exact .inr ⟨h1,fun p=> by have:=h2.2 p; cases this⟩
def IsP(p:Int):Prop:=p=2∨p=3∨p=5∨p=7
theorem IsP.range{p:Int}(h:IsP p):2≤p∧p≤7:=by unfold IsP at h; omega
def RowOK(p w:Int)(row:List Int):Prop:=(row.length:Int)=w∧∀x∈row,0≤x∧x < p
def TableOK(p c w:Int)(m:List (List Int)):Prop:=(m.length:Int)=c∧∀row∈m,RowOK p w row
theorem xf(n lo hi:Int):F54 n lo hi=some (decide (lo≤n∧n≤hi)):=by
 unfold F54; by_cases h:lo≤n <;> simp[h]
theorem xq(n lo hi:Int):F56 n lo hi=some (decide (lo≤n∧n≤hi)):=by
 unfold F56; by_cases h:lo≤n <;> simp[h]
theorem F78_tells(p:Int):xh (F78 p) (IsP p):=by
 unfold F78 IsP;split
 ·exact .of_true rfl (by omega)
 split
 ·exact .of_true rfl (by omega)
 split
 ·exact .of_true rfl (by omega)
 ·exact⟨_,rfl,by simp; omega⟩
theorem F67_tells(p:Int):xh (F67 p) (IsP p):=by
 unfold F67 IsP;split
 ·exact .of_true rfl (by omega)
 split
 ·exact .of_true rfl (by omega)
 split
 ·exact .of_true rfl (by omega)
 ·exact⟨_,rfl,by simp; omega⟩
theorem F79_2{p w:Int}{m:List (List Int)}(hp:2≤p∧p≤7){i:Nat}(hi:i < m.length)(hs:m[i].length≤1099511627776):
  ∃t,qY (F79_2_S p m w i) 0=some t∧((t= .inl ()∧∀x∈m[i],0≤x∧x < p)∨(t= .inr false∧¬∀x∈m[i],0≤x∧x < p)):=by
 refine qX (fun j:Int=>(m[i].length - j).toNat) (fun j=>∃n:Nat,j=n∧n≤m[i].length∧∀k (hk:k < n) (h2:k < m[i].length),0≤m[i][k]∧m[i][k] < p) _ ⟨0,rfl,by omega,fun k hk=> by omega⟩ ?_;rintro _ ⟨n,rfl,hn,hall⟩;unfold F79_2_S;simp only[qn hi,ob];by_cases hlt:(n:Int) < m[i].length
 ·have hnl:n < m[i].length:=by omega
  simp only[if_pos hlt,qn hnl,ob,qk (show(-9223372036854775808:Int)≤p - 1 by omega) (show p - 1 < 9223372036854775808 by omega),xf];by_cases hx:0≤m[i][n]∧m[i][n]≤p - 1
  ·left
   refine⟨n+1,?_,⟨n+1,rfl,hnl,fun k hk h2=>?_⟩,by omega⟩
   ·simp only[hx,and_self,decide_true,if_true,qk (show(-9223372036854775808:Int)≤(n:Int)+1 by omega) (show(n:Int)+1 < 9223372036854775808 by omega),ob]
   ·by_cases e:k=n
    ·subst e; omega
    ·exact hall k (by omega) h2
  ·right
   refine⟨.inr false,?_,.inr ⟨rfl,fun ha=> hx ?_⟩⟩
   ·simp[hx]
   ·have:=ha _ (wC hnl); omega
 ·right
  refine⟨.inl (),by simp only[if_neg hlt],.inl ⟨rfl,fun x hx=>?_⟩⟩;obtain⟨k,hk,rfl⟩:=wP hx;exact hall k (by omega) hk
theorem F79_tells{p c w:Int}{m:List (List Int)}(hp:2≤p∧p≤7)(hm:m.length≤1099511627776)(hs:∀r∈m,r.length≤1099511627776):xh (F79 p m c w) (TableOK p c w m):=by
 unfold F79;by_cases hc:(m.length:Int)=c
 case neg=> rw[if_neg hc]; exact .of_false rfl fun h=> hc h.1
 rw[if_pos hc];obtain⟨t,h1,h2⟩:=qz (B:=F79_1_B p m w) (D:=F79_1_D p m w) (hi:=m.length) m.length rfl (by omega) (fun i _=>∀k (hk:k < i) (h2:k < m.length),RowOK p w m[k]) (fun t=>(t= .inl ()∧∀r∈m,RowOK p w r)∨(t= .inr false∧¬∀r∈m,RowOK p w r)) (s:=()) (fun k hk=> by omega) (fun i _ hi hI=> by
  unfold F79_1_B;simp only[qn hi,ob];by_cases hw:(m[i].length:Int)=w
  ·rw[if_pos hw]
   obtain⟨t,h1,h2⟩:=F79_2 (w:=w) hp hi (hs _ (wC hi));rw[h1];rcases h2 with⟨rfl,h2⟩|⟨rfl,h2⟩
   ·left
    refine⟨(),rfl,fun k hk h3=>?_⟩;by_cases e:k=i
    ·subst e; exact⟨hw,h2⟩
    ·exact hI k (by omega) h3
   ·right
    exact⟨_,rfl,.inr ⟨rfl,fun ha=> h2 (ha _ (wC hi)).2⟩⟩
  ·rw[if_neg hw]
   right;exact⟨_,rfl,.inr ⟨rfl,fun ha=> hw (ha _ (wC hi)).1⟩⟩) (fun _ hI=>⟨.inl (),rfl,.inl ⟨rfl,fun r hr=> by
    obtain⟨k,hk,rfl⟩:=wP hr;exact hI k hk hk⟩⟩)
 rw[h1];rcases h2 with⟨rfl,h2⟩|⟨rfl,h2⟩
 ·exact .of_true rfl ⟨hc,h2⟩
 ·exact .of_false rfl fun h=> h2 h.2
def addRow(p x:Int)(out row:List Int):List Int:=List.zipWith (fun o y=>(o+x*y).tmod p) out row
def linN(p:Int)(n:Nat)(v:List Int)(m:List (List Int)):Nat→List Int
 |0=> List.replicate n 0
 |i+1=> addRow p (v.getD i 0) (linN p n v m i) (m.getD i [])
def lin(p:Int)(n:Nat)(v:List Int)(m:List (List Int)):List Int:=linN p n v m v.length
structure LinOK (p:Int) (n:Nat) (v:List Int) (m:List (List Int)):Prop where
 hp:2≤p∧p≤7
 hv:∀x∈v,0≤x∧x < p
 hl:v.length≤m.length
 hr:∀l∈m,l.length=n∧∀y∈l,0≤y∧y < p
 hn:n≤1048576
 hvl:v.length≤1048576
theorem small_mul{p x y o:Int}(hp:2≤p∧p≤7)(hx:0≤x∧x < p)(hy:0≤y∧y < p)(ho:0≤o∧o < p):
  chk (x*y)=some (x*y)∧chk (o+x*y)=some (o+x*y)∧0≤(o+x*y).tmod p∧(o+x*y).tmod p < p:=by
 have h1:0≤x*y:=Int.mul_nonneg hx.1 hy.1;have h2:x*y≤6*6:=Int.mul_le_mul (by omega) (by omega) hy.1 (by omega);exact⟨qk (by omega) (by omega),qk (by omega) (by omega),Int.tmod_nonneg _ (by omega),Int.tmod_lt_of_pos _ (by omega)⟩
theorem jN{p x:Int}{out row:List Int}(h:row.length=out.length):(addRow p x out row).length=out.length:=by simp[addRow,h]
theorem addRow_ok{p x:Int}(hp:2≤p∧p≤7)(hx:0≤x∧x < p){out row:List Int}(ho:∀o∈out,0≤o∧o < p)(hy:∀y∈row,0≤y∧y < p):∀o∈addRow p x out row,0≤o∧o < p:=by
 intro o hm;unfold addRow at hm;obtain⟨i,hi,rfl⟩:=wP hm;simp at hi ⊢;exact(small_mul hp hx (hy _ (wC (by omega))) (ho _ (wC (by omega)))).2.2
theorem linN_ok{p:Int}{n:Nat}{v:List Int}{m:List (List Int)}(H:LinOK p n v m):∀i,i≤v.length→(linN p n v m i).length=n∧∀o∈linN p n v m i,0≤o∧o < p:=by
 intro i;induction i with
 |zero=> intro _; refine⟨by simp[linN],fun o ho=>?_⟩; simp[linN]at ho; obtain⟨_,rfl⟩:=ho; have:=H.hp; omega
 |succ i ih=>
  intro hi;obtain⟨h1,h2⟩:=ih (by omega);have e1:v.getD i 0=v[i]:=by simp[show i < v.length by omega]
  have hm:i < m.length:=by have:=H.hl; omega
  have e2:m.getD i []=m[i]:=by simp[hm]
  have hr:=H.hr _ (wC hm);simp only[linN,e1,e2];exact⟨by rw[jN (by rw[hr.1,h1]),h1],addRow_ok H.hp (H.hv _ (wC _)) h2 hr.2⟩
def upTo(p x:Int)(out row:List Int)(k:Nat):List Int:=(addRow p x out row).take k++out.drop k
theorem upTo_len{p x:Int}{out row:List Int}(h:row.length=out.length)(k:Nat)(hk:k≤out.length):(upTo p x out row k).length=out.length:=by
 simp[upTo,jN h]; omega
theorem upTo_at{p x:Int}{out row:List Int}(h:row.length=out.length){k:Nat}(hk:k < out.length)(h2:k < (upTo p x out row k).length):(upTo p x out row k)[k]=out[k]:=by
 have e:(upTo p x out row k)[k]? =some out[k]:=by
  unfold upTo;rw[List.getElem?_append_right (by simp[jN h]; omega)];simp[jN h,uB (Nat.le_of_lt hk),hk]
 rw[List.getElem?_eq_getElem h2]at e;exact wA e
theorem upTo_set{p x:Int}{out row:List Int}(h:row.length=out.length){k:Nat}(hk:k < out.length):
  (upTo p x out row k).set k ((out[k]+x*(row[k]'(by omega))).tmod p)=upTo p x out row (k+1):=by
 have hl:=jN (p:=p) (x:=x) h;unfold upTo;rw[List.set_append_right _ _ (by simp[hl]; omega),List.take_succ_eq_append_getElem (by omega:k < (addRow p x out row).length)];have e1:((addRow p x out row).take k).length=k:=by simp[hl]; omega
 rw[e1,uF];simp[addRow];rw[yR hk];rfl
theorem upTo_zero{p x:Int}{out row:List Int}:upTo p x out row 0=out:=by simp[upTo]
theorem upTo_all{p x:Int}{out row:List Int}(h:row.length=out.length):upTo p x out row out.length=addRow p x out row:=by
 have hl:=jN (p:=p) (x:=x) h;unfold upTo;rw[wQ (by omega),List.drop_of_length_le (by omega),vL]
theorem F80_eq{p:Int}{n:Nat}{v:List Int}{m:List (List Int)}(H:LinOK p n v m){w:Int}(hw:w=n):F80 p m v w=some (lin p n v m):=by
 have hn:=H.hn;have hvl:=H.hvl;have hlm:=H.hl;unfold F80;rw[mkL_ok n hw (by omega) (by omega),ob];obtain⟨t,h1,rfl⟩:=qz (B:=F80_1_B p m v) (D:=F80_1_D p m v) (hi:=v.length) v.length rfl (by omega) (fun i s=> s=linN p n v m i) (fun t=> t=lin p n v m) (s:=List.replicate n 0) rfl (fun i s hi hI=> by
  subst hI;left;obtain⟨q1,q2⟩:=linN_ok H i (by omega);have hm:i < m.length:=by omega
  obtain⟨r1,r2⟩:=H.hr _ (wC hm);have hx:=H.hv _ (wC hi);have e1:v.getD i 0=v[i]:=by simp[hi]
  have e2:m.getD i []=m[i]:=by simp[hm]
  refine⟨_,?_,rfl⟩;unfold F80_1_B;have hlen:m[i].length=(linN p n v m i).length:=by omega
  obtain⟨t,h1,rfl⟩:=qX (S:=F80_2_S p m v i) (fun s=>(n - s.2).toNat) (fun s=>∃k:Nat,k≤n∧s=(upTo p v[i] (linN p n v m i) m[i] k,(k:Int))) (fun t=> t=linN p n v m (i+1)) (s:=(linN p n v m i,0)) ⟨0,by omega,by rw[upTo_zero]; rfl⟩ (by
   rintro _ ⟨k,hk,rfl⟩;unfold F80_2_S;have hul:=upTo_len (p:=p) (x:=v[i]) hlen k (by omega);simp only;by_cases hlt:(k:Int) < (upTo p v[i] (linN p n v m i) m[i] k).length
   ·rw[if_pos hlt]
    have hk1:k < (upTo p v[i] (linN p n v m i) m[i] k).length:=by omega
    have hk2:k < (linN p n v m i).length:=by omega
    have hk3:k < m[i].length:=by omega
    obtain⟨s1,s2,s3,s4⟩:=small_mul H.hp hx (r2 _ (wC hk3)) (q2 _ (wC hk2));have hp0:p≠0:=by have:=H.hp; omega
    left;refine⟨(upTo p v[i] (linN p n v m i) m[i] (k+1),((k+1:Nat):Int)),?_,⟨k+1,by omega,rfl⟩,by simp only; omega⟩;simp only[qn hk1,upTo_at hlen hk2 hk1,qn hi,qn hm,qn hk3,ob,s1,s2,xH hp0,zi hk1,upTo_set hlen hk2,qk (show(-9223372036854775808:Int)≤(k:Int)+1 by omega) (show(k:Int)+1 < 9223372036854775808 by omega)];rfl
   ·rw[if_neg hlt]
    right;have hkn:k=(linN p n v m i).length:=by omega
    refine⟨_,rfl,?_⟩;rw[hkn,upTo_all hlen];simp only[linN,e1,e2])
  rw[h1];rfl) (fun s hI=>⟨_,rfl,hI⟩)
 rw[h1];rfl
theorem F119_2_eq{p:Int}{n:Nat}{v:List Int}{m:List (List Int)}(H:LinOK p n v m){i:Nat}(hi:i < v.length)(hm:i < m.length):
  forR 0 (m[i].length:Int) (F119_2_B p v m i v[i] m[i]) (F119_2_D p v m i v[i] m[i]) (linN p n v m i)=some (linN p n v m (i+1)):=by
 have hn:=H.hn;obtain⟨q1,q2⟩:=linN_ok H i (by omega);obtain⟨r1,r2⟩:=H.hr _ (wC hm);have hx:=H.hv _ (wC hi);have e1:v.getD i 0=v[i]:=by simp[hi]
 have e2:m.getD i []=m[i]:=by simp[hm]
 have hlen:m[i].length=(linN p n v m i).length:=by omega
 have hp0:p≠0:=by have:=H.hp; omega
 obtain⟨t,h1,rfl⟩:=qz (B:=F119_2_B p v m i v[i] m[i]) (D:=F119_2_D p v m i v[i] m[i]) (hi:=m[i].length) m[i].length rfl (by omega) (fun k s=> s=upTo p v[i] (linN p n v m i) m[i] k) (fun t=> t=linN p n v m (i+1)) (s:=linN p n v m i) upTo_zero.symm (by
  intro k s hk hI;subst hI;left;have hul:=upTo_len (p:=p) (x:=v[i]) hlen k (by omega);have hk1:k < (upTo p v[i] (linN p n v m i) m[i] k).length:=by omega
  have hk2:k < (linN p n v m i).length:=by omega
  obtain⟨s1,s2,s3,s4⟩:=small_mul H.hp hx (r2 _ (wC hk)) (q2 _ (wC hk2));refine⟨_,?_,rfl⟩;unfold F119_2_B;simp only[qn hk,qn hk1,upTo_at hlen hk2 hk1,ob,s1,s2,xH hp0,zi hk1,upTo_set hlen hk2]) (by
  intro s hI;refine⟨s,rfl,?_⟩;rw[hI,hlen,upTo_all hlen];simp only[linN,e1,e2])
 exact h1
theorem F119_1_eq{p:Int}{n:Nat}{v:List Int}{m:List (List Int)}(H:LinOK p n v m)(i:Nat)(hi:i < v.length):F119_1_B p v m (i:Int) (linN p n v m i)=some (.inl (linN p n v m (i+1))):=by
 have hlm:=H.hl;have hm:i < m.length:=by omega
 unfold F119_1_B;rw[qn hi,ob,qn hm,ob,F119_2_eq H hi hm,ob]
theorem F119_eq{p:Int}{n:Nat}{v:List Int}{m:List (List Int)}(H:LinOK p n v m){w:Int}(hw:w=n):F119 p w v m=some (lin p n v m):=by
 have hn:=H.hn;have hvl:=H.hvl;have hs:v.length < 4611686018427387904:=by omega
 unfold F119;rw[mkL_ok n hw (by omega) (by omega),ob];obtain⟨t,h1,rfl⟩:=qz (B:=F119_1_B p v m) (D:=F119_1_D p v m) (hi:=v.length) v.length rfl hs (fun i s=> s=linN p n v m i) (fun t=> t=lin p n v m) (s:=List.replicate n 0) rfl (by
  intro i s hi hI;subst hI;left;exact⟨_,F119_1_eq H i hi,rfl⟩) (fun s hI=>⟨s,by unfold F119_1_D; rfl,hI⟩)
 rw[h1,ob]
theorem F115_eq{l:List Int}{f:Int→Option Bool}(P:Int→Bool)(hl:l.length≤1099511627776)(hf:∀x∈l,f x=some (P x)):∃i:Int,F115 l f=some i∧(0≤i↔∃x∈l,P x=true):=by
 unfold F115;have hs:l.length < 4611686018427387904:=by omega
 obtain⟨t,h1,h2⟩:=qz (B:=xX l f) (D:=F115_1_D l f) (hi:=l.length) l.length rfl hs (fun i _=>∀k (hk:k < i) (h2:k < l.length),P l[k]=false) (fun t=>(t= .inl ()∧∀x∈l,P x=false)∨∃i:Nat,t= .inr (i:Int)∧∃x∈l,P x=true) (s:=()) (fun k hk=> by omega) (by
  intro i _ hi hI;unfold xX;rw[qn hi,ob,hf _ (wC hi),ob];cases hp:P l[i]with
  |true=> right; exact⟨_,rfl,.inr ⟨i,rfl,_,wC hi,hp⟩⟩
  |false=>
   left;refine⟨(),rfl,fun k hk h2=>?_⟩;by_cases e:k=i
   ·subst e; exact hp
   ·exact hI k (by omega) h2) (by
  intro _ hI;refine⟨.inl (),rfl,.inl ⟨rfl,fun x hx=>?_⟩⟩;obtain⟨k,hk,rfl⟩:=wP hx;exact hI k hk hk)
 rw[h1];rcases h2 with⟨rfl,h2⟩|⟨i,rfl,h2⟩
 ·exact⟨-1,rfl,⟨fun h=> by omega,fun⟨x,hx,hp⟩=> by rw[h2 x hx]at hp; cases hp⟩⟩
 ·exact⟨i,rfl,⟨fun _=> h2,fun _=> Int.natCast_nonneg i⟩⟩
theorem F82_eq{l:List Int}{f:Int→Option Bool}(P:Int→Bool)(hl:l.length≤1099511627776)(hf:∀x∈l,f x=some (P x)):F82 l f=some (l.any P):=by
 obtain⟨i,h1,h2⟩:=F115_eq P hl hf;unfold F82;rw[h1,ob];have:decide (0≤i)=l.any P:=by
  rw[uD];simp only[decide_eq_true_eq,vV];exact h2
 rw[this]
theorem F128_eq{l:List (List Int)}{f:List Int→Option Bool}(P:List Int→Bool)(hl:l.length≤1099511627776)(hf:∀x∈l,f x=some (P x)):∃i:Int,F128 l f=some i∧(0≤i↔∃x∈l,P x=true):=by
 unfold F128;have hs:l.length < 4611686018427387904:=by omega
 obtain⟨t,h1,h2⟩:=qz (B:=xV l f) (D:=F128_1_D l f) (hi:=l.length) l.length rfl hs (fun i _=>∀k (hk:k < i) (h2:k < l.length),P l[k]=false) (fun t=>(t= .inl ()∧∀x∈l,P x=false)∨∃i:Nat,t= .inr (i:Int)∧∃x∈l,P x=true) (s:=()) (fun k hk=> by omega) (by
  intro i _ hi hI;unfold xV;rw[qn hi,ob,hf _ (wC hi),ob];cases hp:P l[i]with
  |true=> right; exact⟨_,rfl,.inr ⟨i,rfl,_,wC hi,hp⟩⟩
  |false=>
   left;refine⟨(),rfl,fun k hk h2=>?_⟩;by_cases e:k=i
   ·subst e; exact hp
   ·exact hI k (by omega) h2) (by
  intro _ hI;refine⟨.inl (),rfl,.inl ⟨rfl,fun x hx=>?_⟩⟩;obtain⟨k,hk,rfl⟩:=wP hx;exact hI k hk hk)
 rw[h1];rcases h2 with⟨rfl,h2⟩|⟨i,rfl,h2⟩
 ·exact⟨-1,rfl,⟨fun h=> by omega,fun⟨x,hx,hp⟩=> by rw[h2 x hx]at hp; cases hp⟩⟩
 ·exact⟨i,rfl,⟨fun _=> h2,fun _=> Int.natCast_nonneg i⟩⟩
theorem F117_eq{l:List (List Int)}{f:List Int→Option Bool}(P:List Int→Bool)(hl:l.length≤1099511627776)(hf:∀x∈l,f x=some (P x)):F117 l f=some (l.any P):=by
 obtain⟨i,h1,h2⟩:=F128_eq P hl hf;unfold F117;rw[h1,ob];have:decide (0≤i)=l.any P:=by
  rw[uD];simp only[decide_eq_true_eq,vV];exact h2
 rw[this]
def rowB(p w:Int)(row:List Int):Bool:=decide ((row.length:Int)=w)&& row.all fun x=> decide (0≤x∧x < p)
theorem rowB_iff{p w:Int}{row:List Int}:rowB p w row=true↔RowOK p w row:=by
 unfold rowB RowOK;simp only[wO,decide_eq_true_eq,wU]
theorem F130_eq{p:Int}(hp:2≤p∧p≤7)(x:Int):F130 x p=some (!decide (0≤x∧x < p)):=by
 unfold F130;rw[qk (by omega) (by omega),ob,xq,ob]
 congr 3
 exact propext ⟨fun h=>⟨h.1,by omega⟩,fun h=>⟨h.1,by omega⟩⟩
theorem F129_eq{p w:Int}(hp:2≤p∧p≤7){l:List Int}(hl:l.length≤1099511627776):F129 p w l=some (rowB p w l):=by
 unfold F129 rowB;by_cases h:(l.length:Int)=w
 ·rw[if_pos h,F82_eq (fun x=> !decide (0≤x∧x < p)) hl (fun x _=> F130_eq hp x),ob]
  simp[h,List.not_any_eq_all_not]
 ·rw[if_neg h]; simp[h]
theorem F116_eq{p w:Int}(hp:2≤p∧p≤7){l:List Int}(hl:l.length≤1099511627776):F116 l p w=some (!rowB p w l):=by
 unfold F116; rw[F129_eq hp hl,ob]
theorem F90_eq{p w:Int}(hp:2≤p∧p≤7){m:List (List Int)}(hm:m.length≤1099511627776)(hs:∀r∈m,r.length≤1099511627776):F90 p w m=some (m.all (rowB p w)):=by
 unfold F90;rw[F117_eq (fun r=> !rowB p w r) hm (fun r hr=> F116_eq hp (hs r hr)),ob];simp[List.not_any_eq_all_not]
theorem F90_tells{p w:Int}(hp:2≤p∧p≤7){m:List (List Int)}(hm:m.length≤1099511627776)(hs:∀r∈m,r.length≤1099511627776):xh (F90 p w m) (∀r∈m,RowOK p w r):=
 ⟨_,F90_eq hp hm hs,by simp only[wU,rowB_iff]⟩
theorem F92_tells{l:List Int}(hl:l.length≤1099511627776):xh (F92 l) (∀x∈l,x=0):=by
 unfold F92;have h:F82 l (fun x=> F118 x)=some (l.any fun x=> !decide (x=0)):=F82_eq _ hl (fun x _=> rfl);rw[h,ob];exact⟨_,rfl,by simp[List.not_any_eq_all_not]⟩
theorem F81_tells{l:List Int}(hl:l.length≤1099511627776):∃i,F81 l=some i∧(0≤i↔¬∀x∈l,x=0):=by
 unfold F81;have hs:l.length < 4611686018427387904:=by omega
 obtain⟨t,h1,h2⟩:=qz (B:=F81_1_B l) (D:=F81_1_D l) (hi:=l.length) l.length rfl hs (fun i _=>∀k (hk:k < i) (h2:k < l.length),l[k]=0) (fun t=>(t= .inl ()∧∀x∈l,x=0)∨∃i:Nat,t= .inr (i:Int)∧¬∀x∈l,x=0) (s:=()) (fun k hk=> by omega) (by
  intro i _ hi hI;unfold F81_1_B;rw[qn hi,ob];by_cases hp:l[i]=0
  ·rw[if_pos hp]
   left;refine⟨(),rfl,fun k hk h2=>?_⟩;by_cases e:k=i
   ·subst e; exact hp
   ·exact hI k (by omega) h2
  ·rw[if_neg hp]
   right;exact⟨_,rfl,.inr ⟨i,rfl,fun ha=> hp (ha _ (wC hi))⟩⟩) (by
  intro _ hI;refine⟨.inl (),rfl,.inl ⟨rfl,fun x hx=>?_⟩⟩;obtain⟨k,hk,rfl⟩:=wP hx;exact hI k hk hk)
 rw[h1];rcases h2 with⟨rfl,h2⟩|⟨i,rfl,h2⟩
 ·exact⟨-1,rfl,⟨fun h=> by omega,fun h=> absurd h2 h⟩⟩
 ·exact⟨i,rfl,⟨fun _=> h2,fun _=> Int.natCast_nonneg i⟩⟩
structure ji (x:qe):Prop where
 d:x.Dims.length≤1048576
 m:x.Maps.length≤1048576
 r:∀m∈x.Maps,m.length≤1048576∧∀l∈m,l.length≤1048576
structure ShapeC (x:qe):Prop where
 p:IsP x.Prime
 dl:1≤x.Dims.length∧x.Dims.length≤6
 ml:x.Maps.length+1=x.Dims.length
 dims:∀d∈x.Dims,0≤d∧d≤8
def xd(x:qe)(k:Nat):Prop:=TableOK x.Prime (x.Dims.getD (k+1) 0) (x.Dims.getD k 0) (x.Maps.getD k [])
def SqAt(x:qe)(k:Nat):Prop:=∀row∈x.Maps.getD k [],∀y∈lin x.Prime (x.Dims.getD (k - 1) 0).toNat row (x.Maps.getD (k - 1) []),y=0
structure jG (x:qe):Prop extends ShapeC x where
 tab:∀k,k < x.Maps.length→xd x k
 sq:∀k,0 < k→k < x.Maps.length→SqAt x k
theorem lin_len{p:Int}{n:Nat}{v:List Int}{m:List (List Int)}(H:LinOK p n v m):(lin p n v m).length=n:=(linN_ok H _ (wD _)).1
theorem linOK_of{x:qe}(hs:ShapeC x){k:Nat}(h1:0 < k)(h2:k < x.Maps.length)(t1:xd x (k - 1))(t2:xd x k){row:List Int}(hr:row∈x.Maps.getD k []):
  LinOK x.Prime (x.Dims.getD (k - 1) 0).toNat row (x.Maps.getD (k - 1) [])∧0≤x.Dims.getD (k - 1) 0∧x.Dims.getD (k - 1) 0≤8:=by
 have hd:∀j,j < x.Dims.length→0≤x.Dims.getD j 0∧x.Dims.getD j 0≤8:=fun j hj=> by
  have:=hs.dims _ (wC hj);simpa[hj]using this
 have hml:=hs.ml;have d1:=hd (k - 1) (by omega);have d2:=hd k (by omega);obtain⟨q1,q2⟩:=t2.2 row hr;refine⟨⟨hs.p.range,q2,?_,fun l hl=>?_,?_,?_⟩,d1⟩
 ·have:=t1.1
  have e:k - 1+1=k:=by omega
  rw[e]at this;omega
 ·obtain⟨r1,r2⟩:=t1.2 l hl
  exact⟨by omega,r2⟩
 ·omega
 ·omega
theorem xe{x:qe}(h:x.Dims.length≤1048576):F86 x=some ((x.Dims.length:Int) - 1):=by
 unfold F86; rw[qk (by omega) (by omega),ob]
theorem mapsD{x:qe}{k:Nat}(h:k < x.Maps.length):x.Maps.getD k []=x.Maps[k]:=by simp[h]
theorem F39_3_eq{x:qe}(hs:ShapeC x){k:Nat}(h2:k < x.Maps.length)(t1:0 < k→xd x (k - 1))(t2:xd x k)(hsm:ji x):
  ∃t,qY (F39_3_S x (k:Int)) 0=some t∧((t= .inl ()∧(0 < k→SqAt x k))∨(t= .inr false∧0 < k∧¬SqAt x k)):=by
 have hml:=hs.ml;have hdl:=hs.dl;have hk:=(hsm.r _ (wC h2)).1;refine qX (fun j:Int=>(x.Maps[k].length - j).toNat) (fun j=>∃n:Nat,j=n∧n≤x.Maps[k].length∧(0 < k→∀i (hi:i < n) (h3:i < x.Maps[k].length),∀y∈lin x.Prime (x.Dims.getD (k - 1) 0).toNat x.Maps[k][i] (x.Maps.getD (k - 1) []),y=0)) _ ⟨0,rfl,by omega,fun _ i hi=> by omega⟩ ?_;rintro _ ⟨n,rfl,hn,hall⟩;unfold F39_3_S;rw[qn h2,ob];by_cases hlt:(n:Int) < x.Maps[k].length
 ·rw[if_pos hlt]
  have hnl:n < x.Maps[k].length:=by omega
  by_cases h0:0 < k
  ·rw[if_pos (by omega)]
   obtain⟨H,d0,d8⟩:=linOK_of hs h0 h2 (t1 h0) t2 (row:=x.Maps[k][n]) (by rw[mapsD h2]; exact wC hnl);have e1:((k:Int) - 1)=((k - 1:Nat):Int):=by omega
   rw[qk (by omega) (by omega),ob,e1,qp (show k - 1 < x.Maps.length by omega) [],ob,qn hnl,ob,qp (show k - 1 < x.Dims.length by omega) 0,ob,
    F80_eq H (by omega),ob]
   obtain⟨i,g1,g2⟩:=F81_tells (l:=lin x.Prime (x.Dims.getD (k - 1) 0).toNat x.Maps[k][n] (x.Maps.getD (k - 1) [])) (by rw[lin_len H]; omega);rw[g1,ob];by_cases hz:0≤i
   ·rw[if_pos hz]
    right;refine⟨_,rfl,.inr ⟨rfl,h0,fun ha=> g2.1 hz (ha _ (by rw[mapsD h2]; exact wC hnl))⟩⟩
   ·rw[if_neg hz]
    left;rw[qk (by omega) (by omega),ob];refine⟨_,rfl,⟨n+1,rfl,hnl,fun _ i hi h3=>?_⟩,by omega⟩;by_cases e:i=n
    ·subst e
     exact vR fun hq=> hz (g2.2 hq)
    ·exact hall h0 i (by omega) h3
  ·rw[if_neg (by omega)]
   right;exact⟨_,rfl,.inl ⟨rfl,fun h=> absurd h h0⟩⟩
 ·rw[if_neg hlt]
  right;refine⟨_,rfl,.inl ⟨rfl,fun h0 row hr=>?_⟩⟩;rw[mapsD h2]at hr;obtain⟨i,hi,rfl⟩:=wP hr;exact hall h0 i (by omega) hi
theorem F39_2_eq{x:qe}(hs:ShapeC x)(hsm:ji x):
  ∃t,forR 0 (x.Maps.length:Int) (F39_2_B x) (F39_2_D x) ()=some t∧((t= .inl ()∧(∀k,k < x.Maps.length→xd x k)∧∀k,0 < k→k < x.Maps.length→SqAt x k)∨(t= .inr false∧¬((∀k,k < x.Maps.length→xd x k)∧∀k,0 < k→k < x.Maps.length→SqAt x k))):=by
 have hml:=hs.ml;have hm:=hsm.m;have hlen:x.Maps.length < 4611686018427387904:=by omega
 refine qz x.Maps.length rfl hlen (fun i _=>(∀k,k < i→xd x k)∧∀k,0 < k→k < i→SqAt x k) _ ⟨fun k hk=> by omega,fun k _ hk=> by omega⟩ ?_ ?_
 ·rintro i _ hi ⟨ht,hq⟩
  unfold F39_2_B;have e2:((i:Int)+1)=((i+1:Nat):Int):=by omega
  have hr:=hsm.r _ (wC hi);rw[qn hi,ob,e2,qp (show i+1 < x.Dims.length by omega) 0,ob,qp (show i < x.Dims.length by omega) 0,ob];have hT:=F79_tells (p:=x.Prime) (c:=x.Dims.getD (i+1) 0) (w:=x.Dims.getD i 0) (m:=x.Maps[i]) hs.p.range (by omega) (fun r h=> by have:=hr.2 r h; omega);rcases hT.case with⟨h1,h2⟩|⟨h1,h2⟩
  ·rw[h1,ob,if_pos rfl]
   have hti:xd x i:=by unfold xd; rw[mapsD hi]; exact h2
   obtain⟨t,g1,g2⟩:=F39_3_eq hs hi (fun h0=> ht _ (by omega)) hti hsm;rw[g1,ob];rcases g2 with⟨rfl,g2⟩|⟨rfl,g0,g2⟩
   ·left
    refine⟨(),rfl,fun k hk=>?_,fun k h0 hk=>?_⟩
    ·by_cases e:k=i
     ·subst e; exact hti
     ·exact ht k (by omega)
    ·by_cases e:k=i
     ·subst e; exact g2 h0
     ·exact hq k h0 (by omega)
   ·right
    exact⟨_,rfl,.inr ⟨rfl,fun ha=> g2 (ha.2 i g0 hi)⟩⟩
  ·rw[h1,ob,if_neg wE]
   right;refine⟨_,rfl,.inr ⟨rfl,fun ha=> h2 ?_⟩⟩;have:=ha.1 i hi;unfold xd at this;rw[mapsD hi]at this;exact this
 ·rintro _ ⟨ht,hq⟩
  exact⟨.inl (),rfl,.inl ⟨rfl,ht,hq⟩⟩
theorem F39_1_eq{x:qe}(hsm:ji x):∃t,forR 0 (x.Dims.length:Int) (F39_1_B x) (F39_1_D x) ()=some t∧((t= .inl ()∧∀d∈x.Dims,0≤d∧d≤8)∨(t= .inr false∧¬∀d∈x.Dims,0≤d∧d≤8)):=by
 have hm:=hsm.d;have hlen:x.Dims.length < 4611686018427387904:=by omega
 refine qz x.Dims.length rfl hlen (fun i _=>∀k (hk:k < i) (h2:k < x.Dims.length),0≤x.Dims[k]∧x.Dims[k]≤8) _ (fun k hk=> by omega) ?_ ?_
 ·rintro i _ hi hI
  unfold F39_1_B;rw[qn hi,ob,xf,ob];by_cases h:0≤x.Dims[i]∧x.Dims[i]≤8
  ·rw[if_pos (by simpa using h)]
   left;refine⟨(),rfl,fun k hk h2=>?_⟩;by_cases e:k=i
   ·subst e; exact h
   ·exact hI k (by omega) h2
  ·rw[if_neg (by simpa using h)]
   right;exact⟨_,rfl,.inr ⟨rfl,fun ha=> h (ha _ (wC hi))⟩⟩
 ·rintro _ hI
  refine⟨.inl (),rfl,.inl ⟨rfl,fun d hd=>?_⟩⟩;obtain⟨k,hk,rfl⟩:=wP hd;exact hI k hk hk
theorem F39_tells{x:qe}(hsm:ji x):xh (F39 x) (jG x):=by
 have hd:=hsm.d;unfold F39;rcases(F78_tells x.Prime).case with⟨h1,hp⟩|⟨h1,hp⟩
 case inr=> rw[h1,ob,if_neg wE]; exact .of_false rfl fun h=> hp h.p
 rw[h1,ob,if_pos rfl];by_cases c1:(x.Dims.length:Int) < 1
 ·rw[if_pos c1]; exact .of_false rfl fun h=> by have:=h.dl; omega
 rw[if_neg c1];by_cases c2:6 < (x.Dims.length:Int)
 ·rw[if_pos c2]; exact .of_false rfl fun h=> by have:=h.dl; omega
 rw[if_neg c2,qk (by omega) (by omega),ob];by_cases c3:(x.Maps.length:Int)=(x.Dims.length:Int) - 1
 case neg=> rw[if_neg c3]; exact .of_false rfl fun h=> by have:=h.ml; omega
 rw[if_pos c3];obtain⟨t,g1,g2⟩:=F39_1_eq hsm;rw[g1,ob];rcases g2 with⟨rfl,g2⟩|⟨rfl,g2⟩
 case inr=> exact .of_false rfl fun h=> g2 h.dims
 have hs:ShapeC x:=⟨hp,by omega,by omega,g2⟩;obtain⟨t,k1,k2⟩:=F39_2_eq hs hsm;simp only;rw[k1,ob];rcases k2 with⟨rfl,k2,k3⟩|⟨rfl,k2⟩
 ·exact .of_true rfl ⟨hs,k2,k3⟩
 ·exact .of_false rfl fun h=> k2 ⟨h.tab,h.sq⟩
theorem F42_1_eq{x:qe}(hs:ShapeC x)(hsm:ji x):
  ∃t,forR 0 (x.Maps.length:Int) (F42_1_B x) (F42_1_D x) ()=some t∧((t= .inl ()∧∀k,k < x.Maps.length→xd x k)∨(t= .inr false∧¬∀k,k < x.Maps.length→xd x k)):=by
 have hml:=hs.ml;have hm:=hsm.m;have hlen:x.Maps.length < 4611686018427387904:=by omega
 refine qz x.Maps.length rfl hlen (fun i _=>∀k,k < i→xd x k) _ (fun k hk=> by omega) ?_ ?_
 ·rintro i _ hi ht
  unfold F42_1_B;have e2:((i:Int)+1)=((i+1:Nat):Int):=by omega
  have hr:=hsm.r _ (wC hi);rw[qn hi,ob,e2,qp (show i+1 < x.Dims.length by omega) 0,ob];have hti:xd x i↔((x.Maps[i].length:Int)=x.Dims.getD (i+1) 0∧∀r∈x.Maps[i],RowOK x.Prime (x.Dims.getD i 0) r):=by unfold xd; rw[mapsD hi]; rfl
  by_cases hc:(x.Maps[i].length:Int)=x.Dims.getD (i+1) 0
  ·rw[if_pos hc,qp (show i < x.Dims.length by omega) 0,ob]
   have hT:=F90_tells (p:=x.Prime) (w:=x.Dims.getD i 0) (m:=x.Maps[i]) hs.p.range (by omega) (fun r h=> by have:=hr.2 r h; omega);rcases hT.case with⟨h1,h2⟩|⟨h1,h2⟩
   ·rw[h1,ob,if_pos rfl]
    left;refine⟨(),rfl,fun k hk=>?_⟩;by_cases e:k=i
    ·subst e; exact hti.2 ⟨hc,h2⟩
    ·exact ht k (by omega)
   ·rw[h1,ob,if_neg wE]
    right;exact⟨_,rfl,.inr ⟨rfl,fun ha=> h2 (hti.1 (ha i hi)).2⟩⟩
  ·rw[if_neg hc]
   right;exact⟨_,rfl,.inr ⟨rfl,fun ha=> hc (hti.1 (ha i hi)).1⟩⟩
 ·rintro _ ht
  exact⟨.inl (),rfl,.inl ⟨rfl,ht⟩⟩
theorem F91_eq{x:qe}(hs:ShapeC x)(hsm:ji x){k:Nat}(h1:0 < k)(h2:k < x.Maps.length)(t1:xd x (k - 1))(t2:xd x k){row:List Int}(hr:row∈x.Maps.getD k []):
  F91 x (k:Int) row=some (lin x.Prime (x.Dims.getD (k - 1) 0).toNat row (x.Maps.getD (k - 1) [])):=by
 have hml:=hs.ml;have hdl:=hs.dl;obtain⟨H,d0,d8⟩:=linOK_of hs h1 h2 t1 t2 hr;unfold F91;have e1:((k:Int) - 1)=((k - 1:Nat):Int):=by omega
 rw[if_neg (by omega),xe hsm.d,ob,if_neg (by omega),qk (by omega) (by omega),ob,e1,qp (show k - 1 < x.Dims.length by omega) 0,ob,qp (show k - 1 < x.Maps.length by omega) [],ob,
  F119_eq H (by omega),ob]
theorem F42_3_eq{x:qe}(hs:ShapeC x)(hsm:ji x)(ht:∀k,k < x.Maps.length→xd x k){n:Nat}(hn:2≤n)(h2:n - 1 < x.Maps.length):
  ∃t,forR 0 ((x.Maps[n - 1].length:Nat):Int) (F42_3_B x (n:Int) x.Maps[n - 1]) (F42_3_D x (n:Int) x.Maps[n - 1]) ()=some t∧((t= .inl ()∧SqAt x (n - 1))∨(t= .inr false∧¬SqAt x (n - 1))):=by
 have hml:=hs.ml;have hdl:=hs.dl;have hk:=(hsm.r _ (wC h2)).1;have hlen:x.Maps[n - 1].length < 4611686018427387904:=by omega
 refine qz x.Maps[n - 1].length rfl hlen (fun i _=>∀j (hj:j < i) (h3:j < x.Maps[n - 1].length),∀y∈lin x.Prime (x.Dims.getD (n - 1 - 1) 0).toNat x.Maps[n - 1][j] (x.Maps.getD (n - 1 - 1) []),y=0) _ (fun j hj=> by omega) ?_ ?_
 ·rintro i _ hi hI
  unfold F42_3_B;have hrow:x.Maps[n - 1][i]∈x.Maps.getD (n - 1) []:=by rw[mapsD h2]; exact wC hi
  have e1:((n:Int) - 1)=((n - 1:Nat):Int):=by omega
  have t1:=ht (n - 1 - 1) (by omega);have t2:=ht (n - 1) h2;obtain⟨H,d0,d8⟩:=linOK_of hs (by omega) h2 t1 t2 hrow;rw[qn hi,ob,qk (by omega) (by omega),ob,e1,F91_eq hs hsm (by omega) h2 t1 t2 hrow,ob];rcases(F92_tells (l:=lin x.Prime (x.Dims.getD (n - 1 - 1) 0).toNat x.Maps[n - 1][i] (x.Maps.getD (n - 1 - 1) [])) (by rw[lin_len H]; omega)).case with⟨g1,g2⟩|⟨g1,g2⟩
  ·rw[g1,ob,if_pos rfl]
   left;refine⟨(),rfl,fun j hj h3=>?_⟩;by_cases e:j=i
   ·subst e; exact g2
   ·exact hI j (by omega) h3
  ·rw[g1,ob,if_neg wE]
   right;exact⟨_,rfl,.inr ⟨rfl,fun ha=> g2 (ha _ hrow)⟩⟩
 ·rintro _ hI
  refine⟨.inl (),rfl,.inl ⟨rfl,fun row hr=>?_⟩⟩;rw[mapsD h2]at hr;obtain⟨j,hj,rfl⟩:=wP hr;exact hI j hj hj
theorem F42_2_eq{x:qe}(hs:ShapeC x)(hsm:ji x)(ht:∀k,k < x.Maps.length→xd x k):
  ∃t,qY (F42_2_S x) 2=some t∧((t= .inl ()∧∀k,0 < k→k < x.Maps.length→SqAt x k)∨(t= .inr false∧¬∀k,0 < k→k < x.Maps.length→SqAt x k)):=by
 have hml:=hs.ml;have hdl:=hs.dl;refine qX (fun j:Int=>(x.Dims.length+2 - j).toNat) (fun j=>∃n:Nat,j=n∧2≤n∧n≤x.Dims.length+1∧∀k,0 < k→k < n - 1→k < x.Maps.length→SqAt x k) _ ⟨2,rfl,by omega,by omega,fun k h0 hk=> by omega⟩ ?_;rintro _ ⟨n,rfl,hn,hn2,hall⟩;unfold F42_2_S;rw[xe hsm.d,ob];by_cases hlt:(n:Int)≤(x.Dims.length:Int) - 1
 ·rw[if_pos hlt]
  have e1:((n:Int) - 1)=((n - 1:Nat):Int):=by omega
  have h2:n - 1 < x.Maps.length:=by omega
  rw[qk (by omega) (by omega),ob,e1,qn h2,ob];obtain⟨t,g1,g2⟩:=F42_3_eq hs hsm ht hn h2;rw[g1,ob];rcases g2 with⟨rfl,g2⟩|⟨rfl,g2⟩
  ·left
   refine⟨((n+1:Nat):Int),?_,⟨n+1,rfl,by omega,by omega,fun k h0 hk h3=>?_⟩,by omega⟩
   ·simp only
    rw[qk (by omega) (by omega),ob];rfl
   ·by_cases e:k=n - 1
    ·subst e; exact g2
    ·exact hall k h0 (by omega) h3
  ·right
   exact⟨_,rfl,.inr ⟨rfl,fun ha=> g2 (ha _ (by omega) h2)⟩⟩
 ·rw[if_neg hlt]
  right;exact⟨_,rfl,.inl ⟨rfl,fun k h0 hk=> hall k h0 (by omega) hk⟩⟩
theorem F42_tells{x:qe}(hsm:ji x):xh (F42 x) (jG x):=by
 have hd:=hsm.d;unfold F42;rcases(F67_tells x.Prime).case with⟨h1,hp⟩|⟨h1,hp⟩
 case inr=> rw[h1,ob,if_neg wE]; exact .of_false rfl fun h=> hp h.p
 rw[h1,ob,if_pos rfl,xe hd,ob,xq,ob];by_cases c1:0≤(x.Dims.length:Int) - 1∧(x.Dims.length:Int) - 1≤5
 case neg=> rw[if_neg (by simpa using c1)]; exact .of_false rfl fun h=> by have:=h.dl; omega
 rw[if_pos (by simpa using c1)];by_cases c3:(x.Maps.length:Int)=(x.Dims.length:Int) - 1
 case neg=> rw[if_neg c3]; exact .of_false rfl fun h=> by have:=h.ml; omega
 rw[if_pos c3];have h88:F82 x.Dims (fun y=> F88 y)=some (x.Dims.any fun d=> !decide (0≤d∧d≤8)):=F82_eq _ (by omega) (fun d _=> by unfold F88; rw[xq,ob]);rw[h88,ob];have hany:(x.Dims.any fun d=> !decide (0≤d∧d≤8))=true↔¬∀d∈x.Dims,0≤d∧d≤8:=by
  simp only[vV,vX,decide_eq_false_iff_not];constructor
  ·rintro⟨d,h1,h2⟩ ha; exact h2 (ha d h1)
  ·intro hn
   exact vR fun hc=> hn fun d hd=> vR fun h=> hc ⟨d,hd,h⟩
 by_cases c4:(x.Dims.any fun d=> !decide (0≤d∧d≤8))=true
 ·rw[if_pos c4]; exact .of_false rfl fun h=> hany.1 c4 h.dims
 rw[if_neg c4];have hdims:∀d∈x.Dims,0≤d∧d≤8:=vR fun hc=> c4 (hany.2 hc);have hs:ShapeC x:=⟨hp,by omega,by omega,hdims⟩;obtain⟨t,g1,g2⟩:=F42_1_eq hs hsm;rw[g1,ob];rcases g2 with⟨rfl,ht⟩|⟨rfl,ht⟩
 case inr=> exact .of_false rfl fun h=> ht h.tab
 obtain⟨t,k1,k2⟩:=F42_2_eq hs hsm ht;simp only;rw[k1,ob];rcases k2 with⟨rfl,k2⟩|⟨rfl,k2⟩
 ·exact .of_true rfl ⟨hs,ht,k2⟩
 ·exact .of_false rfl fun h=> k2 h.sq
def numAt(ms:List (List (List Int)))(k i j:Nat):Int:=((ms.getD k []).getD i []).getD j 0
def InT(ms:List (List (List Int)))(k i j:Nat):Prop:=k < ms.length∧i < (ms.getD k []).length∧j < ((ms.getD k []).getD i []).length
theorem qT{α:Type}{l:List α}{i:Nat}(h:i < l.length)(d:α):l.getD i d∈l:=by
 rw[List.getD_eq_getElem?_getD,List.getElem?_eq_getElem h]; exact wC h
structure qB (x:qc):Prop where
 c:ji x.Complex
 l:x.Levels.length≤1048576
 r:∀q∈x.Levels,q.length≤1048576
def LevAt(x:qc)(k i j:Nat):Prop:=numAt x.Complex.Maps k i j=0∨(x.Levels.getD k []).getD j 0≤(x.Levels.getD (k+1) []).getD i 0
structure LevC (x:qc):Prop where
 ll:x.Levels.length=x.Complex.Dims.length
 lv:∀n,n < x.Levels.length→((x.Levels.getD n []).length:Int)=x.Complex.Dims.getD n 0∧∀q∈x.Levels.getD n [],0≤q∧q≤5
structure qv (x:qc):Prop extends LevC x where
 vc:jG x.Complex
 le:∀k i j,InT x.Complex.Maps k i j→LevAt x k i j
theorem levsD{x:qc}{k:Nat}(h:k < x.Levels.length):x.Levels.getD k []=x.Levels[k]:=by simp[h]
theorem bounds{x:qc}(hv:jG x.Complex)(hl:LevC x){k i j:Nat}(h:InT x.Complex.Maps k i j):k+1 < x.Levels.length∧j < (x.Levels.getD k []).length∧i < (x.Levels.getD (k+1) []).length:=by
 obtain⟨h1,h2,h3⟩:=h;have hml:=hv.ml;have hll:=hl.ll;have ht:=hv.tab k h1;have l1:=(hl.lv k (by omega)).1;have l2:=(hl.lv (k+1) (by omega)).1;have hi:(x.Complex.Maps.getD k []).getD i []∈x.Complex.Maps.getD k []:=qT h2 [];have r:=(ht.2 _ hi).1;have t1:=ht.1;refine⟨by omega,by omega,by omega⟩
theorem F77_eq{x:qc}{k i:Nat}(h1:k < x.Levels.length)(h2:i < (x.Levels.getD k []).length):F77 x (k:Int) (i:Int)=some ((x.Levels.getD k []).getD i 0):=by
 unfold F77;rw[qp h1 [],ob,qp h2 0,ob]
theorem F76_eq{x:qe}(hs:x.Dims.length≤1048576){k:Nat}(h:k+1 < x.Dims.length)(hm:k < x.Maps.length):F76 x ((k+1:Nat):Int)=some (x.Maps.getD k []):=by
 unfold F76;have e:(((k+1:Nat):Int) - 1)=(k:Int):=by omega
 rw[qk (by omega) (by omega),ob,xf,ob,if_pos (by simp; omega),qk (by omega) (by omega),ob,e,qp hm [],ob]
theorem F38_2_eq{x:qc}(hsm:qB x){n:Nat}(hn:n < x.Levels.length):
  ∃t,qY (F38_2_S x (n:Int)) 0=some t∧((t= .inl ()∧∀q∈x.Levels.getD n [],0≤q∧q≤5)∨(t= .inr false∧¬∀q∈x.Levels.getD n [],0≤q∧q≤5)):=by
 have hr:=hsm.r _ (wC hn);rw[levsD hn];refine qX (fun j:Int=>(x.Levels[n].length - j).toNat) (fun j=>∃m:Nat,j=m∧m≤x.Levels[n].length∧∀k (hk:k < m) (h2:k < x.Levels[n].length),0≤x.Levels[n][k]∧x.Levels[n][k]≤5) _ ⟨0,rfl,by omega,fun k hk=> by omega⟩ ?_;rintro _ ⟨m,rfl,hm,hall⟩;unfold F38_2_S;rw[qn hn,ob];by_cases hlt:(m:Int) < x.Levels[n].length
 ·have hml:m < x.Levels[n].length:=by omega
  rw[if_pos hlt,qn hml,ob,xf,ob];by_cases hx:0≤x.Levels[n][m]∧x.Levels[n][m]≤5
  ·rw[if_pos (by simpa using hx),qk (by omega) (by omega),ob]
   left;refine⟨_,rfl,⟨m+1,rfl,hml,fun k hk h2=>?_⟩,by omega⟩;by_cases e:k=m
   ·subst e; exact hx
   ·exact hall k (by omega) h2
  ·rw[if_neg (by simpa using hx)]
   right;exact⟨_,rfl,.inr ⟨rfl,fun ha=> hx (ha _ (wC hml))⟩⟩
 ·rw[if_neg hlt]
  right;refine⟨_,rfl,.inl ⟨rfl,fun q hq=>?_⟩⟩;obtain⟨k,hk,rfl⟩:=wP hq;exact hall k (by omega) hk
def LvAt(x:qc)(n:Nat):Prop:=((x.Levels.getD n []).length:Int)=x.Complex.Dims.getD n 0∧∀q∈x.Levels.getD n [],0≤q∧q≤5
theorem F38_1_eq{x:qc}(hsm:qB x)(hl:x.Levels.length=x.Complex.Dims.length):
  ∃t,forR 0 (x.Levels.length:Int) (F38_1_B x) (F38_1_D x) ()=some t∧((t= .inl ()∧∀n,n < x.Levels.length→LvAt x n)∨(t= .inr false∧¬∀n,n < x.Levels.length→LvAt x n)):=by
 have hm:=hsm.l;have hlen:x.Levels.length < 4611686018427387904:=by omega
 refine qz x.Levels.length rfl hlen (fun i _=>∀k,k < i→LvAt x k) _ (fun k hk=> by omega) ?_ ?_
 ·rintro i _ hi ht
  unfold F38_1_B;rw[qp hi [],ob,qp (show i < x.Complex.Dims.length by omega) 0,ob];by_cases hc:((x.Levels.getD i []).length:Int)=x.Complex.Dims.getD i 0
  ·rw[if_pos hc]
   obtain⟨t,g1,g2⟩:=F38_2_eq hsm hi;rw[g1,ob];rcases g2 with⟨rfl,g2⟩|⟨rfl,g2⟩
   ·left
    refine⟨(),rfl,fun k hk=>?_⟩;by_cases e:k=i
    ·subst e; exact⟨hc,g2⟩
    ·exact ht k (by omega)
   ·right
    exact⟨_,rfl,.inr ⟨rfl,fun ha=> g2 (ha i hi).2⟩⟩
  ·rw[if_neg hc]
   right;exact⟨_,rfl,.inr ⟨rfl,fun ha=> hc (ha i hi).1⟩⟩
 ·rintro _ ht
  exact⟨.inl (),rfl,.inl ⟨rfl,ht⟩⟩
theorem F38_5_eq{x:qc}(hsm:qB x)(hv:jG x.Complex)(hl:LevC x){k i:Nat}(hk:k < x.Complex.Maps.length)(hi:i < (x.Complex.Maps.getD k []).length):
  ∃t,qY (F38_5_S x ((k+1:Nat):Int) (x.Complex.Maps.getD k []) (i:Int)) 0=some t∧((t= .inl ()∧∀j,j < ((x.Complex.Maps.getD k []).getD i []).length→LevAt x k i j)∨(t= .inr false∧¬∀j,j < ((x.Complex.Maps.getD k []).getD i []).length→LevAt x k i j)):=by
 have hdl:=hv.dl;have hml:=hv.ml;have hrow:(x.Complex.Maps.getD k []).getD i []∈x.Complex.Maps.getD k []:=qT hi [];have hr:((x.Complex.Maps.getD k []).getD i []).length≤1048576:=(hsm.c.r _ (by rw[mapsD hk]; exact wC hk)).2 _ hrow;refine qX (fun j:Int=>(((x.Complex.Maps.getD k []).getD i []).length - j).toNat) (fun j=>∃m:Nat,j=m∧m≤((x.Complex.Maps.getD k []).getD i []).length∧∀j,j < m→LevAt x k i j) _ ⟨0,rfl,by omega,fun k hk=> by omega⟩ ?_;rintro _ ⟨m,rfl,hm,hall⟩;unfold F38_5_S;rw[qp hi [],ob];by_cases hlt:(m:Int) < ((x.Complex.Maps.getD k []).getD i []).length
 ·have hm2:m < ((x.Complex.Maps.getD k []).getD i []).length:=by omega
  obtain⟨b1,b2,b3⟩:=bounds hv hl (show InT x.Complex.Maps k i m from ⟨hk,hi,hm2⟩);rw[if_pos hlt,qp hm2 0,ob];by_cases h0:((x.Complex.Maps.getD k []).getD i []).getD m 0=0
  ·rw[if_pos h0,qk (by omega) (by omega),ob]
   left;refine⟨_,rfl,⟨m+1,rfl,hm2,fun j hj=>?_⟩,by omega⟩;by_cases e:j=m
   ·subst e; exact .inl h0
   ·exact hall j (by omega)
  ·have e1:(((k+1:Nat):Int) - 1)=(k:Int):=by omega
   rw[if_neg h0,qk (by omega) (by omega),ob,e1,F77_eq (by omega) b2,ob,F77_eq b1 b3,ob];by_cases hlv:(x.Levels.getD (k+1) []).getD i 0 < (x.Levels.getD k []).getD m 0
   ·rw[if_pos hlv]
    right;refine⟨_,rfl,.inr ⟨rfl,fun ha=>?_⟩⟩;rcases ha m hm2 with h|h
    ·exact h0 h
    ·omega
   ·rw[if_neg hlv,qk (by omega) (by omega),ob]
    left;refine⟨_,rfl,⟨m+1,rfl,hm2,fun j hj=>?_⟩,by omega⟩;by_cases e:j=m
    ·subst e; exact .inr (by omega)
    ·exact hall j (by omega)
 ·rw[if_neg hlt]
  right;exact⟨_,rfl,.inl ⟨rfl,fun j hj=> hall j (by omega)⟩⟩
def LeAt(x:qc)(k:Nat):Prop:=∀i j,InT x.Complex.Maps k i j→LevAt x k i j
theorem F38_4_eq{x:qc}(hsm:qB x)(hv:jG x.Complex)(hl:LevC x){k:Nat}(hk:k < x.Complex.Maps.length):
  ∃t,forR 0 ((x.Complex.Maps.getD k []).length:Int) (F38_4_B x ((k+1:Nat):Int) (x.Complex.Maps.getD k [])) (F38_4_D x ((k+1:Nat):Int) (x.Complex.Maps.getD k [])) ()=some t∧((t= .inl ()∧LeAt x k)∨(t= .inr false∧¬LeAt x k)):=by
 have hm:(x.Complex.Maps.getD k []).length≤1048576:=(hsm.c.r _ (by rw[mapsD hk]; exact wC hk)).1;have hlen:(x.Complex.Maps.getD k []).length < 4611686018427387904:=by omega
 refine qz (x.Complex.Maps.getD k []).length rfl hlen (fun n _=>∀i,i < n→∀j,InT x.Complex.Maps k i j→LevAt x k i j) _ (fun i hi=> by omega) ?_ ?_
 ·rintro i _ hi ht
  unfold F38_4_B;obtain⟨t,g1,g2⟩:=F38_5_eq hsm hv hl hk hi;rw[g1,ob];rcases g2 with⟨rfl,g2⟩|⟨rfl,g2⟩
  ·left
   refine⟨(),rfl,fun j hj m hin=>?_⟩;by_cases e:j=i
   ·subst e; exact g2 m hin.2.2
   ·exact ht j (by omega) m hin
  ·right
   exact⟨_,rfl,.inr ⟨rfl,fun ha=> g2 fun j hj=> ha i j ⟨hk,hi,hj⟩⟩⟩
 ·rintro _ ht
  exact⟨.inl (),rfl,.inl ⟨rfl,fun i j hin=> ht i hin.2.1 j hin⟩⟩
theorem F38_3_eq{x:qc}(hsm:qB x)(hv:jG x.Complex)(hl:LevC x):
  ∃t,forR 1 (x.Levels.length:Int) (F38_3_B x) (F38_3_D x) ()=some t∧((t= .inl ()∧∀k,k < x.Complex.Maps.length→LeAt x k)∨(t= .inr false∧¬∀k,k < x.Complex.Maps.length→LeAt x k)):=by
 have hm:=hsm.l;have hll:=hl.ll;have hml:=hv.ml;have hdl:=hv.dl;have hlen:x.Levels.length < 4611686018427387904:=by omega
 refine forR_from 1 x.Levels.length rfl rfl (by omega) hlen (fun n _=> 1≤n∧∀k,k < n - 1→LeAt x k) _ ⟨wD _,fun k hk=> by omega⟩ ?_ ?_
 ·rintro n _ hn ⟨h1,ht⟩
  unfold F38_3_B;obtain⟨k,rfl⟩:∃k,n=k+1:=⟨n - 1,by omega⟩;have hk:k < x.Complex.Maps.length:=by omega
  rw[F76_eq hsm.c.d (by omega) hk,ob];obtain⟨t,g1,g2⟩:=F38_4_eq hsm hv hl hk;rw[g1,ob];rcases g2 with⟨rfl,g2⟩|⟨rfl,g2⟩
  ·left
   refine⟨(),rfl,by omega,fun m hm'=>?_⟩;by_cases e:m=k
   ·subst e; exact g2
   ·exact ht m (by omega)
  ·right
   exact⟨_,rfl,.inr ⟨rfl,fun ha=> g2 (ha k hk)⟩⟩
 ·rintro _ ⟨h1,ht⟩
  exact⟨.inl (),rfl,.inl ⟨rfl,fun k hk=> ht k (by omega)⟩⟩
theorem F38_tells{x:qc}(hsm:qB x):xh (F38 x) (qv x):=by
 unfold F38;rcases(F39_tells hsm.c).case with⟨h1,hv⟩|⟨h1,hv⟩
 case inr=> rw[h1,ob,if_neg wE]; exact .of_false rfl fun h=> hv h.vc
 rw[h1,ob,if_pos rfl];by_cases c1:(x.Levels.length:Int)=x.Complex.Dims.length
 case neg=> rw[if_neg c1]; exact .of_false rfl fun h=> by have:=h.ll; omega
 rw[if_pos c1];obtain⟨t,g1,g2⟩:=F38_1_eq hsm (by omega);rw[g1,ob];rcases g2 with⟨rfl,g2⟩|⟨rfl,g2⟩
 case inr=> exact .of_false rfl fun h=> g2 h.lv
 have hl:LevC x:=⟨by omega,g2⟩;obtain⟨t,k1,k2⟩:=F38_3_eq hsm hv hl;simp only;rw[k1,ob];rcases k2 with⟨rfl,k2⟩|⟨rfl,k2⟩
 ·exact .of_true rfl ⟨hl,hv,fun k i j h=> k2 k h.1 i j h⟩
 ·exact .of_false rfl fun h=> k2 fun k hk i j hin=> h.le k i j hin
theorem F41_1_eq{x:qc}(hsm:qB x)(hl:x.Levels.length=x.Complex.Dims.length):
  ∃t,forR 0 (x.Levels.length:Int) (F41_1_B x) (F41_1_D x) ()=some t∧((t= .inl ()∧∀n,n < x.Levels.length→LvAt x n)∨(t= .inr false∧¬∀n,n < x.Levels.length→LvAt x n)):=by
 have hm:=hsm.l;have hlen:x.Levels.length < 4611686018427387904:=by omega
 refine qz x.Levels.length rfl hlen (fun i _=>∀k,k < i→LvAt x k) _ (fun k hk=> by omega) ?_ ?_
 ·rintro i _ hi ht
  unfold F41_1_B;rw[qp hi [],ob,qp (show i < x.Complex.Dims.length by omega) 0,ob];by_cases hc:((x.Levels.getD i []).length:Int)=x.Complex.Dims.getD i 0
  ·rw[if_pos hc]
   have hr:(x.Levels.getD i []).length≤1048576:=hsm.r _ (by rw[levsD hi]; exact wC hi);have h83:F82 (x.Levels.getD i []) (fun y=> F83 y)=some ((x.Levels.getD i []).any fun q=> !decide (0≤q∧q≤5)):=F82_eq _ (by omega) (fun q _=> by unfold F83; rw[xq,ob]);have hany:((x.Levels.getD i []).any fun q=> !decide (0≤q∧q≤5))=true↔¬∀q∈x.Levels.getD i [],0≤q∧q≤5:=by
    simp only[vV,vX,decide_eq_false_iff_not];constructor
    ·rintro⟨d,h1,h2⟩ ha; exact h2 (ha d h1)
    ·intro hn
     exact vR fun hc=> hn fun d hd=> vR fun h=> hc ⟨d,hd,h⟩
   rw[h83,ob];by_cases c4:((x.Levels.getD i []).any fun q=> !decide (0≤q∧q≤5))=true
   ·rw[if_pos c4]
    right;exact⟨_,rfl,.inr ⟨rfl,fun ha=> hany.1 c4 (ha i hi).2⟩⟩
   ·rw[if_neg c4]
    left;refine⟨(),rfl,fun k hk=>?_⟩;by_cases e:k=i
    ·subst e; exact⟨hc,vR fun h=> c4 (hany.2 h)⟩
    ·exact ht k (by omega)
  ·rw[if_neg hc]
   right;exact⟨_,rfl,.inr ⟨rfl,fun ha=> hc (ha i hi).1⟩⟩
 ·rintro _ ht
  exact⟨.inl (),rfl,.inl ⟨rfl,ht⟩⟩
theorem F85_and{ms:List (List (List Int))}{f:Int→Int→Int→Int→Bool→Option Bool}(P:Nat→Nat→Nat→Prop)(h1:ms.length≤1048576)(h2:∀m∈ms,m.length≤1048576∧∀r∈m,r.length≤1048576)
  (hf:∀k i j b,InT ms k i j→∃b',f ((k:Int)+1) i j (numAt ms k i j) b=some b'∧(b'=true↔b=true∧P k i j)):xh (F85 ms f true) (∀k i j,InT ms k i j→P k i j):=by
 unfold F85;have hl1:ms.length < 4611686018427387904:=by omega
 refine qz (τ:=Bool) (σ:=Bool) ms.length rfl hl1 (fun n b=>(b=true↔∀k i j,k < n→InT ms k i j→P k i j)) _ (by simp) ?_ ?_
 ·intro k b hk hI
  left;rw[qp hk [],ob];have hmem:ms.getD k []∈ms:=qT hk [];have hm:=h2 _ hmem;have hl2:(ms.getD k []).length < 4611686018427387904:=by have:=hm.1; omega
  suffices hs:∃t,forR 0 ((ms.getD k []).length:Int) _ _ b=some t∧(t=true↔∀k' i j,k' < k+1→InT ms k' i j→P k' i j) by
   obtain⟨t,g1,g2⟩:=hs;rw[g1,ob];exact⟨t,rfl,g2⟩
  refine qz (τ:=Bool) (σ:=Bool) (ms.getD k []).length rfl hl2 (fun n b=>(b=true↔(∀k' i j,k' < k→InT ms k' i j→P k' i j)∧∀i j,i < n→InT ms k i j→P k i j)) _ (by rw[hI]; simp) ?_ ?_
  ·intro i b hi hI2
   left;rw[qp hi [],ob];have hmem2:(ms.getD k []).getD i []∈ms.getD k []:=qT hi [];have hl3:((ms.getD k []).getD i []).length < 4611686018427387904:=by have:=hm.2 _ hmem2; omega
   suffices hs:∃t,forR 0 (((ms.getD k []).getD i []).length:Int) _ _ b=some t∧(t=true↔(∀k' i j,k' < k→InT ms k' i j→P k' i j)∧∀i' j,i' < i+1→InT ms k i' j→P k i' j) by
    obtain⟨t,g1,g2⟩:=hs;rw[g1,ob];exact⟨t,rfl,g2⟩
   refine qz (τ:=Bool) (σ:=Bool) ((ms.getD k []).getD i []).length rfl hl3 (fun n b=>(b=true↔((∀k' i j,k' < k→InT ms k' i j→P k' i j)∧∀i' j,i' < i→InT ms k i' j→P k i' j)∧∀j,j < n→InT ms k i j→P k i j)) _ (by rw[hI2]; simp) ?_ ?_
   ·intro j b hj hI3
    left;have hin:InT ms k i j:=⟨hk,hi,hj⟩;rw[qp hj 0,ob,qk (by omega) (by omega),ob];obtain⟨b',g1,g2⟩:=hf k i j b hin;have g1':f ((k:Int)+1) i j (((ms.getD k []).getD i []).getD j 0) b=some b':=g1;rw[g1',ob];refine⟨b',rfl,?_⟩;rw[g2,hI3];constructor
    ·rintro⟨⟨q1,q2⟩,q3⟩
     refine⟨q1,fun j' hj' hin'=>?_⟩;by_cases e:j'=j
     ·subst e; exact q3
     ·exact q2 j' (by omega) hin'
    ·rintro⟨q1,q2⟩
     exact⟨⟨q1,fun j' hj' hin'=> q2 j' (by omega) hin'⟩,q2 j (by omega) hin⟩
   ·intro b hI3
    refine⟨b,rfl,?_⟩;rw[hI3];constructor
    ·rintro⟨⟨q1,q2⟩,q3⟩
     refine⟨q1,fun i' j hi' hin'=>?_⟩;by_cases e:i'=i
     ·subst e; exact q3 j hin'.2.2 hin'
     ·exact q2 i' j (by omega) hin'
    ·rintro⟨q1,q2⟩
     exact⟨⟨q1,fun i' j hi' hin'=> q2 i' j (by omega) hin'⟩,fun j _ hin'=> q2 i j (by omega) hin'⟩
  ·intro b hI2
   refine⟨b,rfl,?_⟩;rw[hI2];constructor
   ·rintro⟨q1,q2⟩ k' i j hk' hin'
    by_cases e:k'=k
    ·subst e; exact q2 i j hin'.2.1 hin'
    ·exact q1 k' i j (by omega) hin'
   ·intro q
    exact⟨fun k' i j hk' hin'=> q k' i j (by omega) hin',fun i j _ hin'=> q k i j (by omega) hin'⟩
 ·intro b hI
  refine⟨b,rfl,?_⟩;rw[hI];constructor
  ·intro q k i j hin; exact q k i j hin.1 hin
  ·intro q k i j _ hin; exact q k i j hin
theorem F41_tells{x:qc}(hsm:qB x):xh (F41 x) (qv x):=by
 unfold F41;rcases(F42_tells hsm.c).case with⟨h1,hv⟩|⟨h1,hv⟩
 case inr=> rw[h1,ob,if_neg wE]; exact .of_false rfl fun h=> hv h.vc
 rw[h1,ob,if_pos rfl];by_cases c1:(x.Levels.length:Int)=x.Complex.Dims.length
 case neg=> rw[if_neg c1]; exact .of_false rfl fun h=> by have:=h.ll; omega
 rw[if_pos c1];obtain⟨t,g1,g2⟩:=F41_1_eq hsm (by omega);rw[g1,ob];rcases g2 with⟨rfl,g2⟩|⟨rfl,g2⟩
 case inr=> exact .of_false rfl fun h=> g2 h.lv
 have hl:LevC x:=⟨by omega,g2⟩;have hml:=hv.ml;have hdl:=hv.dl;have hT:=F85_and (ms:=x.Complex.Maps) (f:=fun n r p v s=> F84 n r p v s x) (LevAt x) hsm.c.m hsm.c.r (by
  intro k i j b hin;obtain⟨b1,b2,b3⟩:=bounds hv hl hin;have hk:=hin.1;unfold F84;cases b with
  |false=> rw[if_neg wE]; exact⟨false,rfl,by simp⟩
  |true=>
   rw[if_pos rfl];by_cases h0:numAt x.Complex.Maps k i j=0
   ·rw[if_pos h0]; exact⟨true,rfl,by simp[LevAt,h0]⟩
   ·have e1:((k:Int)+1 - 1)=(k:Int):=by omega
    have e2:((k:Int)+1)=((k+1:Nat):Int):=by omega
    rw[if_neg h0,qk (by omega) (by omega),ob,e1,qp (show k < x.Levels.length by omega) [],ob,qp b2 0,ob,e2,qp b1 [],ob,qp b3 0,ob];exact⟨_,rfl,by simp only[decide_eq_true_eq,LevAt,h0,false_or,true_and]⟩)
 simp only;rcases hT.case with⟨k1,k2⟩|⟨k1,k2⟩
 ·rw[k1,ob]; exact .of_true rfl ⟨hl,hv,k2⟩
 ·rw[k1,ob]; exact .of_false rfl fun h=> k2 h.le
abbrev LongL{α:Type}(L:α→Prop)(l:List α):Prop:=l.length≤9223372036854775807∧∀y∈l,L y
structure SmallT (ms:List (List (List Int))):Prop where
 m:ms.length≤1048576
 r:∀m∈ms,m.length≤1048576∧∀r∈m,r.length≤1048576
def TabM(x:qe)(ms:List (List (List Int)))(k:Nat):Prop:=TableOK x.Prime (x.Dims.getD (k+1) 0) (x.Dims.getD k 0) (ms.getD k [])
structure MapsOK (x:qe) (ms:List (List (List Int))):Prop where
 v:jG x
 l:ms.length=x.Maps.length
 t:∀k,k < ms.length→TabM x ms k
abbrev T3s:=List (List (List Int))
structure Shp (s u:T3s):Prop where
 l:s.length=u.length
 t:∀k,k < u.length→(s.getD k []).length=(u.getD k []).length
 r:∀k,k < u.length→∀i,i < (u.getD k []).length→((s.getD k []).getD i []).length=((u.getD k []).getD i []).length
theorem Shp.refl(s:T3s):Shp s s:=⟨rfl,fun _ _=> rfl,fun _ _ _ _=> rfl⟩
theorem Shp.trans{a b c:T3s}(h:Shp a b)(k:Shp b c):Shp a c:=
 ⟨h.l.trans k.l,fun n hn=>(h.t n (by rw[k.l]; exact hn)).trans (k.t n hn),fun n hn i hi=>(h.r n (by rw[k.l]; exact hn) i (by rw[k.t n hn]; exact hi)).trans (k.r n hn i hi)⟩
theorem Shp.symm{a b:T3s}(h:Shp a b):Shp b a:=
 ⟨h.l.symm,fun n hn=>(h.t n (by rw[←h.l]; exact hn)).symm,fun n hn i hi=>(h.r n (by rw[←h.l]; exact hn) i (by rw[←h.t n (by rw[←h.l]; exact hn)]; exact hi)).symm⟩
theorem getD_ext{α:Type}{l l':List α}(d:α)(h:l.length=l'.length)(hv:∀k,k < l'.length→l.getD k d=l'.getD k d):l=l':=by
 apply List.ext_getElem h;intro k h1 h2;have:=hv k h2;simpa[h1,h2]using this
theorem Shp.eq{s t:T3s}(h:Shp s t)(hv:∀k i j,InT t k i j→numAt s k i j=numAt t k i j):s=t:=by
 refine getD_ext [] h.l fun k hk=> getD_ext [] (h.t k hk) fun i hi=> getD_ext 0 (h.r k hk i hi) fun j hj=> hv k i j ⟨hk,hi,hj⟩
def put3(s:T3s)(k i j:Nat)(z:Int):T3s:=s.set k ((s.getD k []).set i (((s.getD k []).getD i []).set j z))
theorem getD_set{α:Type}{l:List α}{k k':Nat}{x d:α}(hk:k < l.length):(l.set k x).getD k' d=if k'=k then x else l.getD k' d:=by
 rw[List.getD_eq_getElem?_getD,List.getElem?_set];by_cases e:k=k'
 ·subst e; rw[if_pos rfl,if_pos hk,if_pos rfl]; rfl
 ·rw[if_neg e,if_neg (fun q=> e q.symm),List.getD_eq_getElem?_getD]
theorem put3_shp{s:T3s}{k i j:Nat}(h:InT s k i j)(z:Int):Shp (put3 s k i j z) s:=by
 obtain⟨h1,h2,h3⟩:=h;refine⟨by simp[put3],fun n hn=>?_,fun n hn m hm=>?_⟩
 ·unfold put3; rw[getD_set h1]; split
  ·rename_i e; subst e; simp
  ·rfl
 ·unfold put3; rw[getD_set h1]; split
  ·rename_i e; subst e
   rw[getD_set h2]; split
   ·rename_i e; subst e; simp
   ·rfl
  ·rfl
def q0(p a b:Int):Int:=(a+b).tmod p
def q1(p a b:Int):Int:=((a+b).tmod p+p).tmod p
def Rng(p:Int)(s:T3s):Prop:=∀k i j,InT s k i j→0≤numAt s k i j∧numAt s k i j < p
def AT(q:Int→Int→Int)(s0 ms:T3s)(D:Nat→Nat→Nat→Prop)(s:T3s):Prop:=
 Shp s s0∧∀k i j,InT s0 k i j→(D k i j→numAt s k i j=q (numAt s0 k i j) (numAt ms k i j))∧(¬D k i j→numAt s k i j=numAt s0 k i j)
theorem AT.zero(q:Int→Int→Int)(s0 ms:T3s):AT q s0 ms (fun _ _ _=> False) s0:=⟨.refl _,fun k i j _=>⟨fun x=> x.elim,fun _=> rfl⟩⟩
theorem cpy_loop{α:Type}{l:List α}{B:Int→List α→Option (List α⊕List α)}{D:Int→List α→Option (List α)}(hl:l.length≤1048576)
  (hB:∀ (i:Nat) (hi:i < l.length) (s:List α),s.length=i→B i s=some (.inl (s++[l[i]]))) (hD:∀i s,D i s=some s):forR 0 (l.length:Int) B D []=some l:=by
 have hlen:l.length < 4611686018427387904:=by omega
 obtain⟨t,h1,h2⟩:=qz (B:=B) (D:=D) l.length rfl hlen (fun i s=> s=l.take i) (fun t=> t=l) (s:=[]) (by simp) (by
  rintro i s hi rfl;left;refine⟨_,hB i hi _ (by simp; omega),?_⟩;rw[wR]) (by
  rintro s rfl;exact⟨_,hD _ _,by simp⟩)
 rw[h1,h2]
theorem app_nil{b:Nat}{α:Type}{l:List α}(h:l.length*b≤1099511627776)(h2:l.length≤1099511627776):app b [] l=some l:=by
 rw[qH (by simpa using h) (by simpa using h2)]; rfl
theorem F94_eq{l:List Int}(h:l.length≤1048576):F94 l=some l:=by
 unfold F94; rw[app_nil (by omega) (by omega),ob]
theorem F96_eq{l:List Int}(h:l.length≤1048576):F96 l=some l:=by
 unfold F96; rw[app_nil (by omega) (by omega)]
theorem F95_eq{l:List (List Int)}(h:l.length≤1048576)(h2:∀r∈l,r.length≤1048576):F95 l=some l:=by
 unfold F95;rw[cpy_loop (B:=F95_1_B l) (D:=F95_1_D l) h (fun i hi s hs=> by
  unfold F95_1_B;rw[qn hi,ob,F94_eq (h2 _ (wC hi)),ob,qH (by simp; omega) (by simp; omega),ob]) (fun i s=> rfl),ob]
theorem F55_eq{x:qe}(h:ji x):F55 x=some x:=by
 have hm:=h.m;have hlen:x.Maps.length < 4611686018427387904:=by omega
 unfold F55;rw[F94_eq h.d,ob];obtain⟨t,h1,h2⟩:=qz (B:=F55_1_B x) (D:=F55_1_D x) x.Maps.length rfl hlen (fun i s=> s=(x.Maps.take i,x.Prime,x.Dims)) (fun t=> t=(x.Maps,x.Prime,x.Dims)) (s:=([],x.Prime,x.Dims)) (by simp) (by
  rintro i s hi rfl;left;have hr:=h.r _ (wC hi);have hlt:(x.Maps.take i).length=i:=by simp; omega
  refine⟨(x.Maps.take (i+1),x.Prime,x.Dims),?_,rfl⟩;unfold F55_1_B;simp only;rw[qn hi,ob,F95_eq hr.1 hr.2,ob,qH (by simp; omega) (by simp; omega),ob,wR]) (by
  rintro s rfl;exact⟨_,rfl,by simp⟩)
 rw[h1,h2,ob]
theorem TabM.len{x:qe}{ms:T3s}{k:Nat}(h:TabM x ms k):((ms.getD k []).length:Int)=x.Dims.getD (k+1) 0:=h.1
theorem MapsOK.self{x:qe}(h:jG x):MapsOK x x.Maps:=⟨h,rfl,fun k hk=> h.tab k hk⟩
theorem MapsOK.rng{x:qe}{ms:T3s}(h:MapsOK x ms):Rng x.Prime ms:=by
 rintro k i j ⟨h1,h2,h3⟩;exact((h.t k h1).2 _ (qT h2 [])).2 _ (qT h3 0)
inductive Ch {α:Type} (R:α→Int→Int→Prop):List α→Int→Int→Prop
 |nil (k:Int):Ch R [] k k
 |cons {a:α} {l:List α} {k j m:Int}:R a k j→Ch R l j m→Ch R (a::l) k m
theorem Ch.snoc{α:Type}{R:α→Int→Int→Prop}{a:α}{j m:Int}(h:R a j m):∀ {l:List α} {k:Int},Ch R l k j→Ch R (l++[a]) k m
 |_,_,.nil _=> .cons h (.nil _)
 |_,_,.cons p q=> .cons p (Ch.snoc h q)
theorem Ch.le{α:Type}{R:α→Int→Int→Prop}(hR:∀a s j,R a s j→s≤j):∀ {l:List α} {k m:Int},Ch R l k m→k≤m
 |_,_,_,.nil _=> vW _
 |_,_,_,.cons p q=> Int.le_trans (hR _ _ _ p) (Ch.le hR q)
theorem ji.zero:ji (⟨0,[],[]⟩:qe):=⟨by simp,by simp,by simp⟩
theorem qB.zero:qB (⟨⟨0,[],[]⟩,[]⟩:qc):=⟨.zero,by simp,by simp⟩
theorem tmod_pos{a p:Int}(h:0≤a):a.tmod p=a% p:=Int.tmod_eq_emod_of_nonneg h
theorem tmod_cg{a p:Int}:Cg p (a.tmod p) a:=⟨-(a.tdiv p),by have:=Int.tmod_add_mul_tdiv a p; grind⟩
theorem F127_eq{p x:Int}(hp:2≤p∧p≤7):F127 p x=some (x% p):=by
 have h1:=Int.tmod_lt_of_pos x (show 0 < p by omega);have h2: -p < x.tmod p:=by
  have h3:=Int.tmod_lt_of_pos (-x) (show 0 < p by omega);rw[Int.neg_tmod]at h3; omega
 unfold F127;rw[xH (by omega),ob,qk (by omega) (by omega),ob,xH (by omega),ob,tmod_pos (by omega)]
 congr 1
 exact Cg.emod ((tmod_cg.add (Cg.refl p p)).trans ⟨1,by grind⟩)
theorem idx_loop{α:Type}{l:List α}(g:Nat→α→α){B:Int→List α→Option (List α⊕List α)}{D:Int→List α→Option (List α)}(hl:l.length≤1048576)
  (hB:∀ (i:Nat) (hi:i < l.length) (s:List α),s.length=l.length→(∀k,s[k]? =if k < i then(l[k]?).map (g k)else l[k]?)→B i s=some (.inl (s.set i (g i l[i])))) (hD:∀i s,D i s=some s):forR 0 (l.length:Int) B D l=some (l.mapIdx g):=by
 obtain⟨t,h1,h2⟩:=qz (B:=B) (D:=D) l.length rfl (by omega) (fun i s=> s.length=l.length∧∀k,s[k]? =if k < i then(l[k]?).map (g k)else l[k]?) (fun t=> t=l.mapIdx g) (s:=l) ⟨rfl,fun k=> by simp⟩ (by
  rintro i s hi ⟨p1,p2⟩;left;refine⟨_,hB i hi s p1 p2,by rw[vZ]; exact p1,fun k=>?_⟩;rw[List.getElem?_set];by_cases e:i=k
  ·subst e; rw[if_pos rfl,if_pos (by omega),if_pos (by omega)]; simp[hi]
  ·rw[if_neg e,p2 k]
   by_cases q:k < i
   ·rw[if_pos q,if_pos (by omega)]
   ·rw[if_neg q,if_neg (by omega)]) (by
  rintro s ⟨p1,p2⟩;refine⟨s,hD _ _,?_⟩;apply List.ext_getElem?;intro k;rw[p2 k,List.getElem?_mapIdx];by_cases q:k < l.length
  ·rw[if_pos q]
  ·rw[if_neg q,List.getElem?_eq_none (by omega)]; rfl)
 rw[h1,h2]
theorem ja{v:List Int}{j:Nat}(h:j < v.length):getI v (j:Int)=some (nth v j):=by rw[qn h,qW h]
theorem rng_mul{p a b:Int}(hp:2≤p∧p≤7)(ha:0≤a∧a < p)(hb:0≤b∧b < p):0≤a*b∧a*b≤49:=by
 refine⟨Int.mul_nonneg ha.1 hb.1,?_⟩;have:=Int.mul_le_mul (show a≤7 by omega) (show b≤7 by omega) hb.1 (by decide);omega
theorem scl_loop{p k:Int}{w:Nat}(hp:2≤p∧p≤7)(hk:0≤k∧k < p){v:List Int}(hv:qM p w v)(hw:w≤1048576){B:Int→List Int→Option (List Int⊕List Int)}{D:Int→List Int→Option (List Int)}
  (hB:∀i row,B i row=(getI row i).bind fun x=>(chk (x*k)).bind fun m=>(remI m p).bind fun z=>(setI row i z).bind fun r=> some (.inl r)) (hD:∀i s,D i s=some s):forR 0 (v.length:Int) B D v=some (scl p v k):=by
 have hl:=hv.len;rw[idx_loop (fun _ x=> x*k% p) (by omega) (fun i hi s hs hk'=>?_) hD]
 ·congr 1
  apply List.ext_getElem <;> simp[scl]
 ·have h1:s[i]? =v[i]?:=by rw[hk' i,if_neg (Nat.lt_irrefl _)]
  have h2:s[i]'(by omega)=v[i]:=by
   have:=h1;rw[List.getElem?_eq_getElem (by omega),List.getElem?_eq_getElem hi]at this;exact wA this
  have hr:=hv.rng i (by omega);rw[qW hi]at hr;have hm:=rng_mul hp hr hk;rw[hB,qn (show i < s.length by omega),ob,h2,qk (by omega) (by omega),ob,xH (by omega),ob,zi (by omega),ob,tmod_pos hm.1]
theorem F136_eq{p k:Int}{w:Nat}(hp:2≤p∧p≤7)(hk:0≤k∧k < p){v u:List Int}(hv:qM p w v)(hu:qM p w u)(hw:w≤1048576):F136 p v u k=some (subv p v u k):=by
 have hl:=hv.len;have hul:=hu.len;have hsl:(subv p v u k).length=w:=by simp[subv,hl,hul]
 unfold F136;obtain⟨t,g1,g2⟩:=qz (B:=F136_1_B p v u k) (D:=F136_1_D p v u k) v.length rfl (by omega) (fun i s=> s=(subv p v u k).take i) (fun t=> t=subv p v u k) (s:=[]) (by simp) (by
  rintro i s hi rfl;left;have hiw:i < w:=by omega
  have h1:=hv.rng i hiw;have h2:=hu.rng i hiw;have hm:=rng_mul hp hk h2;refine⟨(subv p v u k).take (i+1),?_,rfl⟩;unfold F136_1_B;rw[ja hi,ob,ja (by omega),ob,qk (by omega) (by omega),ob,qk (by omega) (by omega),ob,F127_eq hp,ob,qH (by simp; omega) (by simp; omega),ob]
  congr 2
  rw[←wR (show i < (subv p v u k).length by omega)]
  congr 2
  have:=zu (p:=p) (k:=k) hl hul hiw;rw[qW (by omega)]at this;exact this.symm) (by
  rintro s rfl;refine⟨_,rfl,?_⟩;rw[wQ (by omega)])
 rw[g1,ob,g2]
theorem F81_ld{r:List Int}(hl:r.length≤1048576):F81 r=some (if ld r < r.length then(ld r:Int)else -1):=by
 unfold F81;obtain⟨t,g1,g2⟩:=qz (B:=F81_1_B r) (D:=F81_1_D r) r.length rfl (by omega) (fun i _=> i≤ld r) (fun t=>(t= .inl ()∧r.length≤ld r)∨(t= .inr (ld r:Int)∧ld r < r.length)) (s:=()) (vO _) (by
  rintro i _ hi hI;unfold F81_1_B;rw[ja hi,ob];by_cases h:nth r i=0
  ·left
   rw[if_pos h];refine⟨(),rfl,?_⟩;rcases wW i (ld r)with q|q
   ·exact q
   ·have:i=ld r:=by omega
    subst this;exact absurd h (ld_ne hi)
  ·right
   rw[if_neg h];refine⟨_,rfl,.inr ?_⟩;have:ld r=i:=by
    rcases wW i (ld r)with q|q
    ·exact absurd (zB q) h
    ·omega
   rw[this]; exact⟨rfl,hi⟩) (by
  rintro _ hI;exact⟨_,rfl,.inl ⟨rfl,hI⟩⟩)
 rw[g1,ob];rcases g2 with⟨rfl,h⟩|⟨rfl,h⟩
 ·rw[if_neg (by omega)]
 ·rw[if_pos h]
theorem inv_ex{p x:Int}(hp:IsP p)(h1:1≤x)(h2:x < p):∃m,1≤m∧m < p∧m*x% p=1:=by
 unfold IsP at hp;rcases hp with rfl|rfl|rfl|rfl
 ·obtain rfl:x=1:=by omega
  exact⟨1,by decide⟩
 ·have:x=1∨x=2:=by omega
  rcases this with rfl|rfl
  ·exact⟨1,by decide⟩
  ·exact⟨2,by decide⟩
 ·have:x=1∨x=2∨x=3∨x=4:=by omega
  rcases this with rfl|rfl|rfl|rfl
  ·exact⟨1,by decide⟩
  ·exact⟨3,by decide⟩
  ·exact⟨2,by decide⟩
  ·exact⟨4,by decide⟩
 ·have:x=1∨x=2∨x=3∨x=4∨x=5∨x=6:=by omega
  rcases this with rfl|rfl|rfl|rfl|rfl|rfl
  ·exact⟨1,by decide⟩
  ·exact⟨4,by decide⟩
  ·exact⟨5,by decide⟩
  ·exact⟨2,by decide⟩
  ·exact⟨3,by decide⟩
  ·exact⟨6,by decide⟩
theorem cg_one{p a:Int}(hp:2≤p∧p≤7)(h:a% p=1):Cg p a 1:=by
 have:=(Cg.mod p a).symm
 rwa[h]at this
theorem F135_eq{p x:Int}(hp:IsP p)(h1:1≤x)(h2:x < p):∃k,F135 p x=some k∧0≤k∧k < p∧Cg p (x*k) 1:=by
 have hr:=hp.range;obtain⟨m,m1,m2,m3⟩:=inv_ex hp h1 h2;obtain⟨n,hn⟩:∃n:Nat,p=n:=⟨p.toNat,by omega⟩;obtain⟨t,g1,k,rfl,g2,g3,g4⟩:=forR_from (B:=F135_1_B p x) (D:=F135_1_D p x) (lo:=1) (hi:=p) 1 n rfl hn (by omega) (by omega) (fun i _=> 1≤i∧∀j:Int,1≤j→j < i→j*x% p≠1) (fun t=>∃k:Int,t= .inr k∧0≤k∧k < p∧Cg p (x*k) 1) (s:=()) ⟨wD _,fun j a b=> by omega⟩ (by
  rintro i _ hi ⟨h0,hI⟩;unfold F135_1_B;have hm:=rng_mul hr (show 0≤(i:Int)∧(i:Int) < p by omega) (show 0≤x∧x < p by omega);rw[F127_eq hr,ob,Int.emod_eq_of_lt (show 0≤x by omega) h2,qk (by omega) (by omega),ob,xH (by omega),ob,tmod_pos hm.1];by_cases h:(i:Int)*x% p=1
  ·right
   rw[if_pos h];exact⟨_,rfl,_,rfl,by omega,by omega,by rw[Int.mul_comm]; exact cg_one hr h⟩
  ·left
   rw[if_neg h];refine⟨(),rfl,by omega,fun j a b=>?_⟩;by_cases e:j=i
   ·subst e; exact h
   ·exact hI j a (by omega)) (by
  rintro _ ⟨h0,hI⟩;exact absurd m3 (hI m m1 (by omega)))
 unfold F135;rw[g1,ob];exact⟨k,rfl,g2,g3,g4⟩
theorem F138_eq{p x:Int}(hp:IsP p)(h1:1≤x)(h2:x < p):∃k,F138 p x=some k∧0≤k∧k < p∧Cg p (x*k) 1:=by
 have hr:=hp.range;obtain⟨m,m1,m2,m3⟩:=inv_ex hp h1 h2;obtain⟨t,g1,g2,g3,g4⟩:=qX (S:=F138_1_S p x) (fun v=>(m - v).toNat) (fun v=> 1≤v∧v≤m) (fun t=> 0≤t∧t < p∧Cg p (x*t) 1) (s:=1) ⟨by decide,m1⟩ (by
  rintro v ⟨v1,v2⟩;unfold F138_1_S;have hm:=rng_mul hr (show 0≤v∧v < p by omega) (show 0≤x∧x < p by omega);rw[qk (by omega) (by omega),ob,xH (by omega),ob,tmod_pos hm.1];by_cases h:v*x% p=1
  ·right
   rw[if_pos h];exact⟨_,rfl,by omega,by omega,by rw[Int.mul_comm]; exact cg_one hr h⟩
  ·left
   have hne:v≠m:=fun e=> by rw[e]at h; exact h m3
   rw[if_neg h,qk (by omega) (by omega),ob];exact⟨_,rfl,⟨by omega,by omega⟩,by omega⟩)
 unfold F138;rw[g1,ob];exact⟨t,rfl,g2,g3,g4⟩
theorem F139_eq{p k:Int}{w:Nat}(hp:2≤p∧p≤7)(hk:0≤k∧k < p){r o:List Int}(hr:qM p w r)(ho:qM p w o)(hw:w≤1048576):F139 r o p k=some (subv p r o k):=by
 have hl:=hr.len;have hol:=ho.len;unfold F139;rw[show(o.length:Int)=(r.length:Int) by omega,idx_loop (l:=r) (B:=F139_1_B o p k) (D:=F139_1_D) (fun i x=>(x - k*nth o i)% p) (by omega) (fun i hi s hs hk'=>?_) (fun i s=> rfl)]
 ·congr 1
  have hsl:(subv p r o k).length=w:=by simp[subv,hl,hol]
  apply List.ext_getElem (by simp[hl,hsl]);intro i h1 h2;have hi:i < w:=by omega
  have:=zu (p:=p) (k:=k) hl hol hi;rw[qW h2,qW (show i < r.length by omega)]at this;rw[this]; simp
 ·have h1:s[i]? =r[i]?:=by rw[hk' i,if_neg (Nat.lt_irrefl _)]
  have h2:s[i]'(by omega)=r[i]:=by
   have:=h1;rw[List.getElem?_eq_getElem (by omega),List.getElem?_eq_getElem hi]at this;exact wA this
  have a1:=hr.rng i (by omega);rw[qW hi]at a1;have a2:=ho.rng i (by omega);have hm:0≤(p - k)*nth o i∧(p - k)*nth o i≤49:=by
   refine⟨Int.mul_nonneg (by omega) a2.1,?_⟩;have:=Int.mul_le_mul (show p - k≤7 by omega) (show nth o i≤7 by omega) a2.1 (by decide);omega
  unfold F139_1_B;rw[ja (by omega),ob,qn (show i < s.length by omega),ob,h2,qk (by omega) (by omega),ob,qk (by omega) (by omega),ob,qk (by omega) (by omega),ob,xH (by omega),ob,zi (by omega),ob,tmod_pos (by omega)]
  congr 3
  exact Cg.emod ⟨nth o i,by grind⟩
theorem F134_eq{p:Int}{w:Nat}(hp:2≤p∧p≤7){R:List (List Int)}(hR:Red p w R){v:List Int}(hv:qM p w v)(hw:w≤1048576)(hn:R.length≤1048576):F134 p R v=some (rest p R v):=by
 have hp0:0 < p:=by omega
 unfold F134;rw[F94_eq (by rw[hv.len]; exact hw),ob];have key:∀i,i≤R.length→qM p w (rest p (R.take i) v):=fun i _=> jr hp0 (fun r hr=> hR.ok r (wN hr)) hv;obtain⟨t,g1,g2⟩:=qz (B:=F134_1_B p R) (D:=F134_1_D p R) R.length rfl (by omega) (fun i s=> s=rest p (R.take i) v) (fun t=> t=rest p R v) (s:=v) rfl (by
  rintro i s hi rfl;left;refine⟨_,?_,rfl⟩;have hk:=key i (by omega);have hm:=wC hi;have hok:=hR.ok _ hm;have hone:=hR.one _ hm;unfold F134_1_B;rw[qn hi,ob,F81_ld (by rw[hok.len]; exact hw),if_pos (by rw[hok.len]; exact hone.1),ob,ja (by rw[hk.len]; exact hone.1),ob,F136_eq hp (hk.rng _ hone.1) hk hok hw,ob]
  congr 2
  rw[←wR hi];unfold rest;rw[List.foldl_append]; rfl) (by
  rintro s rfl;exact⟨_,rfl,by rw[vJ]⟩)
 rw[g1,ob,g2]
theorem ins_cons{p:Int}{own:List Int}{a:Nat}{o:List Int}{out:List (List Int)}:ins p own a (o::out)=if a < ld o then own::insF p own a o::out.map (insF p own a)else insF p own a o::ins p own a out:=rfl
theorem F131_3_eq{p:Int}{w a:Nat}(hp:2≤p∧p≤7){out:List (List Int)}{own:List Int}(hR:Red p w out)(n:New p w out own a)(hw:w≤1048576)(hn:out.length≤1000000):
  ∃nx put,forR 0 (out.length:Int) (F131_3_B p out own a) F131_3_D ([],false)=some (nx,put)∧(if put=true then nx else nx++[own])=ins p own a out∧nx.length≤2000000:=by
 obtain⟨t,g1,g2,g3⟩:=qz (B:=F131_3_B p out own a) (D:=F131_3_D) out.length rfl (by omega) (fun i s=> s.1.length≤2*i∧(s.2=true→s.1++(out.drop i).map (insF p own a)=ins p own a out)∧(s.2=false→s.1++ins p own a (out.drop i)=ins p own a out))
  (fun t=>(if t.2=true then t.1 else t.1++[own])=ins p own a out∧t.1.length≤2000000) (s:=([],false)) ⟨by simp,by simp,by simp⟩ (by
  rintro i ⟨nx,put⟩ hi ⟨p1,p2,p3⟩;simp only at p1 p2 p3;left;have hm:=wC hi;have hok:=hR.ok _ hm;have hone:=hR.one _ hm;have hr:=hok.rng a n.lt;have hq:F136 p out[i] own (nth out[i] a)=some (insF p own a out[i]):=F136_eq hp hr hok n.ok hw;rw[yR hi]at p2 p3;unfold F131_3_B F131_3_C;simp only;cases put with
  |true=>
   have e:=p2 rfl;rw[if_pos rfl,ob,if_neg wE,ob,qn hi,ob,ja (by rw[hok.len]; exact n.lt),ob,hq,ob,qH (by simp; omega) (by simp; omega),ob];exact⟨_,rfl,by simp; omega,fun _=> by rw[←e]; simp only[vC,wT,vT,vH],fun h=> by cases h⟩
  |false=>
   have e:=p3 rfl;rw[if_neg wE,qn hi,ob,F81_ld (by rw[hok.len]; exact hw),if_pos (by rw[hok.len]; exact hone.1),ob,ob];by_cases h:a < ld out[i]
   ·have hd:decide ((a:Int) < (ld out[i]:Int))=true:=by simpa using h
    rw[ins_cons,if_pos h]at e;rw[hd,if_pos rfl,qH (by simp; omega) (by simp; omega),ob,ob,ob,ja (by rw[hok.len]; exact n.lt),ob,hq,ob,qH (by simp; omega) (by simp; omega),ob];exact⟨_,rfl,by simp; omega,fun _=> by rw[←e]; simp only[vC,wT,vT,vH],fun h=> by cases h⟩
   ·have hd:decide ((a:Int) < (ld out[i]:Int))=false:=by simpa using h
    rw[ins_cons,if_neg h]at e;rw[hd,if_neg wE,ob,ob,ja (by rw[hok.len]; exact n.lt),ob,hq,ob,qH (by simp; omega) (by simp; omega),ob];exact⟨_,rfl,by simp; omega,(fun h=> by cases h),fun _=> by rw[←e]; simp only[wT,vT,vH]⟩) (by
  rintro⟨nx,put⟩ ⟨p1,p2,p3⟩;simp only at p1 p2 p3;refine⟨_,rfl,?_,by simp only; omega⟩;rw[List.drop_length]at p2 p3;cases put with
  |true=> simpa using p2 rfl
  |false=> simpa[ins]using p3 rfl)
 exact⟨t.1,t.2,g1,g2,g3⟩
theorem F131_ech{p:Int}{w:Nat}(hp:IsP p){rows:List (List Int)}(hr:Rows p w rows)(hw:w≤1048576)(hn:rows.length≤1000000):∃out,F131 p rows=some out∧ze p w rows out:=by
 have hpr:=hp.range;have hp1:1 < p:=by omega
 obtain⟨t,g1,g2,g3⟩:=qz (B:=F131_1_B p rows) (D:=F131_1_D) rows.length rfl (by omega) (fun i s=> ze p w (rows.take i) s∧s.length≤i) (fun t=> ze p w rows t∧t.length≤rows.length) (s:=[]) ⟨.nil p w,wD _⟩ (by
  rintro i out hi ⟨p1,p2⟩;left;have hrow:=hr _ (wC hi);have hrt:Rows p w (rows.take i):=fun r h=> hr r (wN h);have hrest:=jr (show 0 < p by omega) p1.red.ok hrow;have hl:¬(ld (rest p out rows[i]) < w)∨ld (rest p out rows[i]) < w:=by omega
  unfold F131_1_B;rw[qn hi,ob,F134_eq hpr p1.red hrow hw (by omega),ob,F81_ld (by rw[hrest.len]; exact hw),ob,hrest.len];rcases hl with hl|hl
  ·rw[if_neg hl,if_pos (by decide)]
   refine⟨out,rfl,?_,by omega⟩;rw[←wR hi];exact p1.skip hp1 hrt hrow fun j hj=> zB (by omega)
  ·rw[if_pos hl,if_neg (by omega)]
   have hne:=ld_ne (r:=rest p out rows[i]) (by rw[hrest.len]; exact hl);have hrg:=hrest.rng _ hl;obtain⟨k,k1,k2,k3,k4⟩:=F135_eq hp (x:=nth (rest p out rows[i]) (ld (rest p out rows[i]))) (by omega) hrg.2;have n:=p1.new hp1 hrow hl (fun j hj=> zB hj) k4;obtain⟨nx,put,q1,q2,q3⟩:=F131_3_eq hpr p1.red n hw (by omega);have hlen:((rest p out rows[i]).length:Int)=(w:Int):=by rw[hrest.len]
   have hsc:=scl_loop hpr ⟨k2,k3⟩ hrest hw (B:=F131_2_B p k) (D:=F131_2_D) (fun i row=> rfl) (fun i s=> rfl);have hput:=p1.put hp1 hrt hrow hl (fun j hj=> zB hj) k4;rw[wR hi]at hput;rw[ja (by rw[hrest.len]; exact hl),ob,k1,ob,←hlen,hsc,ob,q1,ob];simp only;cases put with
   |true=>
    rw[if_pos rfl]at q2 ⊢;rw[q2];exact⟨_,rfl,hput,by rw[ins_len]; omega⟩
   |false=>
    rw[if_neg wE]at q2 ⊢;rw[qH (by simp; omega) (by simp; omega),ob,q2];exact⟨_,rfl,hput,by rw[ins_len]; omega⟩) (by
  rintro out ⟨p1,p2⟩;rw[vJ]at p1;exact⟨_,rfl,p1,p2⟩)
 exact⟨t,g1,g2⟩
theorem F128_first{l:List (List Int)}{f:List Int→Option Bool}(P:List Int→Bool)(hl:l.length≤1048576)(hf:∀x∈l,f x=some (P x)):∃i:Int,F128 l f=some i∧((i= -1∧∀x∈l,P x=false)∨∃m:Nat,i=m∧m < l.length∧P (qC l m)=true):=by
 unfold F128;obtain⟨t,h1,h2⟩:=qz (B:=xV l f) (D:=F128_1_D l f) (hi:=l.length) l.length rfl (by omega) (fun i _=>∀k (hk:k < i) (h2:k < l.length),P l[k]=false) (fun t=>(t= .inl ()∧∀x∈l,P x=false)∨∃m:Nat,t= .inr (m:Int)∧m < l.length∧P (qC l m)=true) (s:=()) (fun k hk=> by omega) (by
  intro i _ hi hI;unfold xV;rw[qn hi,ob,hf _ (wC hi),ob];cases hp:P l[i]with
  |true=> right; exact⟨_,rfl,.inr ⟨i,rfl,hi,by rw[qS hi]; exact hp⟩⟩
  |false=>
   left;refine⟨(),rfl,fun k hk h2=>?_⟩;by_cases e:k=i
   ·subst e; exact hp
   ·exact hI k (by omega) h2) (by
  intro _ hI;refine⟨.inl (),rfl,.inl ⟨rfl,fun x hx=>?_⟩⟩;obtain⟨k,hk,rfl⟩:=wP hx;exact hI k hk hk)
 rw[h1,ob];rcases h2 with⟨rfl,h2⟩|⟨m,rfl,h2⟩
 ·exact⟨_,rfl,.inl ⟨rfl,h2⟩⟩
 ·exact⟨_,rfl,.inr ⟨m,rfl,h2⟩⟩
theorem gstep_loop{p:Int}{w c d:Nat}(hp:2≤p∧p≤7){l:List (List Int)}{row:List Int}(hl:Rows p w l)(hd:d < l.length)(hrow:qC l d=row)(hc:c < w)(hw:w≤1048576)(hn:l.length≤1000000):
  forR 0 (l.length:Int) (F133_4_B p c d) F133_4_D l=some (jE p c d row l):=by
 have hdr:=hl _ (zL hd);rw[hrow]at hdr;rw[idx_loop (l:=l) (B:=F133_4_B p c d) (D:=F133_4_D) (fun i r=> if i=d then r else subv p r row (nth r c)) (by omega) (fun i hi s hs hk=>?_) (fun i s=> rfl)]
 ·unfold jE
  congr 1
  have:l.set d row=l:=by
   rw[←hrow,qS hd]; exact List.set_getElem_self hd
  rw[this]
 ·have h1:s[i]'(by omega)=l[i]:=by
   have:=hk i;rw[if_neg (Nat.lt_irrefl _),List.getElem?_eq_getElem (by omega),List.getElem?_eq_getElem hi]at this;exact wA this
  have h2:s[d]'(by omega)=row:=by
   have:=hk d;rw[List.getElem?_eq_getElem (by omega),List.getElem?_eq_getElem hd]at this;rw[←hrow,qS hd];split at this
   ·simpa using this
   ·exact wA this
  unfold F133_4_B;by_cases e:i=d
  ·subst e
   rw[if_pos rfl,if_pos rfl,←h1,List.set_getElem_self]
  ·have hr:=hl _ (wC hi)
   have hrc:=hr.rng c hc;rw[if_neg (by omega),if_neg e,qn (show i < s.length by omega),ob,qn (show d < s.length by omega),ob,h1,h2,ja (by rw[hr.len]; exact hc),ob,F139_eq hp hrc hr hdr hw,ob,zi (by omega),ob]
theorem F133_ech{p:Int}{w:Nat}(hp:IsP p){rows:List (List Int)}(hr:Rows p w rows)(hw:w≤1048576)(hn:rows.length≤1000000):∃out,F133 p rows=some out∧ze p w rows out:=by
 have hpr:=hp.range;have hp1:1 < p:=by omega
 unfold F133;rw[cpy_loop (l:=rows) (B:=F133_1_B rows) (D:=F133_1_D) (by omega) (fun i hi s hs=> by
  unfold F133_1_B;have:=hr _ (wC hi);rw[qn hi,ob,F96_eq (by rw[this.len]; exact hw),ob,qH (by simp; omega) (by simp; omega),ob]) (fun i s=> rfl),ob]
 by_cases h0:(rows.length:Int)=0
 ·rw[if_pos h0]
  have:rows=[]:=wS (by omega);subst this;exact⟨_,rfl,.nil p w⟩
 rw[if_neg h0];have hpos:0 < rows.length:=by omega
 have e0:=qn hpos;simp only[Int.natCast_zero]at e0;have hw0:=(hr _ (wC hpos)).len;rw[show(0:Int)=((0:Nat):Int) from rfl,qn hpos,ob];obtain⟨t,g1,g2,g3,g4⟩:=qz (B:=F133_2_B p) (D:=F133_2_D) (hi:=(rows[0].length:Int)) w (by rw[hw0]) (by omega) (fun c s=>∃d:Nat,s.2=d∧d < s.1.length∧s.1.length=rows.length∧GInv p w rows c s.1 d)
  (fun t=> ze p w rows (t.1.take t.2.toNat)∧0≤t.2∧t.2≤t.1.length) (s:=(rows,0)) ⟨0,rfl,hpos,rfl,.start hr⟩ (by
  rintro c ⟨l,dd⟩ hc ⟨d,p1,p2,p3,g⟩;simp only at p1 p2 p3 g;subst p1;have hrl:∀x∈l.drop d,(fun r=> F137 r (c:Int)) x=some (!decide (nth x c=0)):=fun x hx=> by
   have hx':=g.ok x (yC hx);show F137 x c=_;unfold F137;rw[ja (by rw[hx'.len]; exact hc),ob]
  obtain⟨at_,a1,a2⟩:=F128_first (fun x=> !decide (nth x c=0)) (l:=l.drop d) (by simp; omega) hrl;unfold F133_2_B;simp only;rw[if_pos ⟨by omega,by omega⟩,vA,a1,ob];rcases a2 with⟨rfl,a2⟩|⟨m,rfl,a2,a3⟩
  ·rw[if_pos (by decide)]
   left;refine⟨_,rfl,d,rfl,p2,p3,g.skip hc fun i h1 h2=>?_⟩;have hx:qC l i∈l.drop d:=by
    rw[qS h2,List.mem_iff_getElem];exact⟨i - d,by simp; omega,by simp[show d+(i - d)=i by omega]⟩
   simpa using a2 _ hx
  ·have hml:m < l.length - d:=by simpa using a2
   have hj:d+m < l.length:=by omega
   have hrm:qC (l.drop d) m=qC l (d+m):=by rw[qS a2,qS hj,List.getElem_drop]
   rw[hrm]at a3;have hne:nth (qC l (d+m)) c≠0:=by simpa using a3
   have hrj:=g.ok _ (zL hj);have hrg:=hrj.rng c hc;obtain⟨k,k1,k2,k3,k4⟩:=F138_eq hp (x:=nth (qC l (d+m)) c) (by omega) hrg.2
   -- the swapped list
   have h2l:((l.set d (qC l (d+m))).set (d+m) (qC l d)).length=l.length:=by simp
   have h2:∀i,i < l.length→qC ((l.set d (qC l (d+m))).set (d+m) (qC l d)) i=qC l (if i=d+m then d else if i=d then d+m else i):=fun i hi=> by
    rw[qS (by simp; exact hi)];by_cases e:i=d+m
    ·subst e; rw[if_pos rfl]; simp
    ·rw[if_neg e,List.getElem_set_ne (yN e)]
     by_cases e2:i=d
     ·subst e2; rw[if_pos rfl]; simp
     ·rw[if_neg e2,List.getElem_set_ne (yN e2),qS hi]
   have gp:=g.put hp1 hc (show d≤d+m by omega) hj k4 h2l h2;have hrd:qC ((l.set d (qC l (d+m))).set (d+m) (qC l d)) d=qC l (d+m):=by
    rw[h2 d p2];by_cases e:d=d+m
    ·rw[if_pos e,←e]
    ·rw[if_neg e,if_pos rfl]
   generalize hl2:(l.set d (qC l (d+m))).set (d+m) (qC l d)=l2 at*;have hsc:=scl_loop hpr ⟨k2,k3⟩ hrj hw (B:=F133_3_B p k) (D:=F133_3_D) (fun i row=> rfl) (fun i s=> rfl);have ok2:Rows p w (l2.set d (scl p (qC l (d+m)) k)):=fun r hr'=> by
    rcases List.mem_or_eq_of_mem_set hr' with q|q
    ·obtain⟨i,hi,rfl⟩:=mem_row.1 q
     rw[h2 i (by omega)];refine g.ok _ (zL ?_);split
     ·exact p2
     ·split
      ·exact hj
      ·omega
    ·rw[q]; exact scl_ok (by omega) hrj k
   have hs3:(l2.set d (scl p (qC l (d+m)) k)).length=l.length:=by simp[h2l]
   have hr3:qC (l2.set d (scl p (qC l (d+m)) k)) d=scl p (qC l (d+m)) k:=by rw[qS (by omega)]; simp
   have hgl:=gstep_loop hpr ok2 (show d < _ by omega) hr3 hc hw (by omega);have hgs:jE p c d (scl p (qC l (d+m)) k) (l2.set d (scl p (qC l (d+m)) k))=jE p c d (scl p (qC l (d+m)) k) l2:=by unfold jE; rw[List.set_set]
   rw[hgs]at hgl;have hlen4:(jE p c d (scl p (qC l (d+m)) k) l2).length=l.length:=by rw[gstep_len]; exact h2l
   have e1:getI l ((d+m:Nat):Int)=some (qC l (d+m)):=by rw[qn hj,qS hj]
   have e2:getI l (d:Int)=some (qC l d):=by rw[qn p2,qS p2]
   have e3:getI l2 (d:Int)=some (qC l (d+m)):=by rw[qn (by omega),←qS (by omega),hrd]
   rw[if_neg (by omega),qk (by omega) (by omega),ob,show(d:Int)+(m:Int)=((d+m:Nat):Int) by omega,e1,ob,e2,ob,zi p2,ob,zi (by simp; omega),ob,hl2,e3,ob,
    ja (by rw[hrj.len]; exact hc),ob,k1,ob,hsc,ob,zi (by omega),ob,hgl,ob,qk (by omega) (by omega),ob]
   by_cases hd1:(d:Int)+1=((jE p c d (scl p (qC l (d+m)) k) l2).length:Int)
   ·right
    rw[if_pos hd1];refine⟨_,rfl,?_,by simp only; omega,by simp only; omega⟩;simp only;rw[show((d:Int)+1).toNat=d+1 by omega];exact gp.done hp1 (.inr (by omega))
   ·left
    rw[if_neg hd1];refine⟨_,rfl,d+1,by simp only; omega,by simp only; have:=gp.dn; omega,by simp only; omega,gp⟩) (by
  rintro⟨l,dd⟩ ⟨d,p1,p2,p3,g⟩;simp only at p1 p2 p3 g;subst p1;refine⟨_,rfl,?_,by simp only; omega,by simp only; omega⟩;simp only;rw[vA];exact g.done hp1 (.inl rfl))
 rw[show((0:Nat):Int)=(0:Int) from rfl,g1,ob,if_pos ⟨g3,g4⟩];exact⟨_,rfl,g2⟩
theorem qJ{p:Int}{w:Nat}(hp:IsP p){rows:List (List Int)}(hr:Rows p w rows)(hw:w≤1048576)(hn:rows.length≤1000000):∃out,F131 p rows=some out∧F133 p rows=some out∧ze p w rows out:=by
 obtain⟨a,a1,a2⟩:=F131_ech hp hr hw hn;obtain⟨b,b1,b2⟩:=F133_ech hp hr hw hn;have:=a2.same (by have:=hp.range; omega) b2;subst this;exact⟨a,a1,b1,a2⟩
theorem F133_self{p:Int}{w:Nat}(hp:IsP p){E:List (List Int)}(h:Red p w E)(hw:w≤1048576)(hn:E.length≤1000000):F133 p E=some E:=by
 obtain⟨X, -,x2,x3⟩:=qJ hp h.ok hw hn;rw[x2,x3.same (by have:=hp.range; omega) (ze.self h)]
theorem qL{p:Int}{w:Nat}{E:List (List Int)}(h:Red p w E):E.length≤w:=by
 have h1:=h.leads;have key:∀ (l:List Nat) (b:Nat),l.Pairwise (·< ·)→(∀x∈l,b≤x∧x < w)→l.length+b≤max w b:=by
  intro l;induction l with
  |nil=> intro b _ _; simp; omega
  |cons a l ih=>
   intro b hp hx;obtain⟨p1,p2⟩:=vN.1 hp;have ha:=hx a wF;have:=ih (a+1) p2 fun x hx'=>⟨p1 x hx',(hx x (wH _ hx')).2⟩;simp only[vK];omega
 have:=key (E.map ld) 0 h1 fun x hx=> by
  obtain⟨r,hr,rfl⟩:=wJ.1 hx;exact⟨vO _,(h.one r hr).1⟩
 simpa using this
theorem set_app_right{r s:List Int}{i:Nat}(x:Int):(r++s).set (r.length+i) x=r++s.set i x:=by
 rw[List.set_append_right _ _ (by omega)]; simp
theorem F125_1_eq{p:Int}{w:Nat}{rows:List (List Int)}(hr:Rows p w rows){x2:List Int}(hx:x2.length=w)(hw:w≤1000)(hn:rows.length≤1000):
  forR 0 (rows.length:Int) (F125_1_B p rows x2) (F125_1_D p rows x2) []=some (jt rows.length rows):=by
 have hl:=longs_len rows.length rows;obtain⟨t,g1,g2⟩:=qz (B:=F125_1_B p rows x2) (D:=F125_1_D p rows x2) rows.length rfl (by omega) (fun i s=> s=(jt rows.length rows).take i) (fun t=> t=jt rows.length rows) (s:=[]) (by simp) (by
  rintro i s hi rfl;left;have hri:=hr _ (wC hi);refine⟨(jt rows.length rows).take (i+1),?_,rfl⟩;unfold F125_1_B appZ;have hz:List.replicate ((rows.length:Int)).toNat (0:Int)=zv rows.length:=by simp[zv]
  have hzl:(zv rows.length).length=rows.length:=by simp[zv]
  have e:((x2.length:Int)+(i:Int))=((rows[i].length+i:Nat):Int):=by rw[hx,hri.len]; omega
  rw[qn hi,ob,F96_eq (by rw[hri.len]; omega),ob,if_pos ⟨by omega,by omega,by omega⟩,hz,qH (by rw[hri.len,hzl]; omega) (by rw[hri.len,hzl]; omega),ob,qk (by rw[hx]; omega) (by rw[hx]; omega),ob,e,qn (by rw[wM,hzl]; omega),ob,
   zi (by rw[wM,hzl]; omega),ob,qH (by simp; omega) (by simp; omega),ob,set_app_right]
  congr 2
  rw[←wR (show i < (jt rows.length rows).length by omega),longs_at,qS hi];rfl) (by
  rintro s rfl;exact⟨_,rfl,by rw[wQ (by omega)]⟩)
 rw[g1,g2]
theorem F122_1_eq{p:Int}{w:Nat}{rows:List (List Int)}(hr:Rows p w rows)(hw:w≤1000)(hn:rows.length≤1000):
  forR 0 (rows.length:Int) (F122_1_B p rows.length rows) (F122_1_D p rows.length rows) ([],0)=some (jt rows.length rows,if rows.length=0 then 0 else(w:Int)):=by
 have hl:=longs_len rows.length rows;obtain⟨t,g1,g2⟩:=qz (B:=F122_1_B p rows.length rows) (D:=F122_1_D p rows.length rows) rows.length rfl (by omega) (fun i s=> s=((jt rows.length rows).take i,if i=0 then 0 else(w:Int))) (fun t=> t=(jt rows.length rows,if rows.length=0 then 0 else(w:Int))) (s:=([],0)) (by simp) (by
  rintro i s hi rfl;left;have hri:=hr _ (wC hi);refine⟨((jt rows.length rows).take (i+1),if i+1=0 then 0 else(w:Int)),?_,rfl⟩;unfold F122_1_B;simp only;have hzl:(zv rows.length).length=rows.length:=by simp[zv]
  rw[mkL_ok rows.length rfl (by omega) (by omega),ob]
  change (getI (zv rows.length) (i:Int)).bind _=_
  rw[qn (by omega),ob]
  change (setI (zv rows.length) (i:Int) 1).bind _=_
  rw[zi (by omega),ob,qn hi,ob,F94_eq (by rw[hri.len]; omega),ob,qH (by simp[zv,hri.len]; omega) (by simp[zv,hri.len]; omega),ob,qH (by simp; omega) (by simp; omega),ob,if_neg (by omega),hri.len]
  congr 3
  rw[←wR (show i < (jt rows.length rows).length by omega),longs_at,qS hi];rfl) (by
  rintro s rfl;exact⟨_,rfl,by rw[wQ (by omega)]⟩)
 rw[g1,g2]
theorem tails_take{w i:Nat}{E:List (List Int)}(hi:i < E.length):zV w (E.take (i+1))=if w≤ld E[i]then zV w (E.take i)++[E[i].drop w]else zV w (E.take i):=by
 unfold zV;rw[←wR hi,List.filter_append,yL];by_cases h:w≤ld E[i]
 ·rw[if_pos h]; simp[h]
 ·rw[if_neg h]; simp[h]
theorem tails_len{w:Nat}{E:List (List Int)}:(zV w E).length≤E.length:=by
 unfold zV;rw[vS]; exact List.length_filter_le _ _
theorem F122_2_eq{p:Int}{w n:Nat}{E:List (List Int)}(h:Red p (w+n) E)(hw:w+n≤10000):
  forR 0 (E.length:Int) (xr w E) (xW w E) []=some (zV w E):=by
 have hE:=qL h;obtain⟨t,g1,g2⟩:=qz (B:=xr w E) (D:=xW w E) E.length rfl (by omega) (fun i s=> s=zV w (E.take i)) (fun t=> t=zV w E) (s:=[]) (by simp[zV]) (by
  rintro i s hi rfl;left;have hk:=h.ok _ (wC hi);have ho:=h.one _ (wC hi);have htl:(zV w (E.take i)).length≤10000:=by have:=tails_len (w:=w) (E:=E.take i); simp at this; omega
  refine⟨zV w (E.take (i+1)),?_,rfl⟩;rw[tails_take hi];unfold xr;rw[qn hi,ob,F81_ld (by rw[hk.len]; omega),if_pos (by rw[hk.len]; exact ho.1),ob];by_cases q:w≤ld E[i]
  ·rw[if_pos (by omega),if_pos q]
   unfold slI;rw[if_pos ⟨by omega,by rw[hk.len]; omega,vW _⟩,ob,vA,vA,vJ,F94_eq (by simp[hk.len]; omega),ob,qH (by simp; omega) (by simp; omega),ob]
  ·rw[if_neg (by omega),if_neg q]) (by
  rintro s rfl;exact⟨_,rfl,by rw[vJ]⟩)
 rw[g1,g2]
theorem isZero_take{r:List Int}{w:Nat}(h:w≤r.length):(∀x∈r.take w,x=0)↔w≤ld r:=by
 constructor
 ·intro hx
  refine Nat.le_of_not_lt fun q=>?_;have hl:ld r < r.length:=by omega
  refine ld_ne hl (by rw[qW hl]; exact hx _ (List.mem_take_iff_getElem.2 ⟨ld r,by omega,rfl⟩))
 ·intro q x hx
  obtain⟨i,hi,rfl⟩:=List.mem_take_iff_getElem.1 hx;have:=zB (r:=r) (j:=i) (by omega)
  rwa[qW (by omega)]at this
theorem F125_2_eq{p:Int}{w n:Nat}{E:List (List Int)}(h:Red p (w+n) E)(hw:w+n≤10000){x2:List Int}(hx:x2.length=w):
  forR 0 (E.length:Int) (F125_2_B p x2 E) (F125_2_D p x2 E) []=some (zV w E):=by
 have hE:=qL h;obtain⟨t,g1,g2⟩:=qz (B:=F125_2_B p x2 E) (D:=F125_2_D p x2 E) E.length rfl (by omega) (fun i s=> s=zV w (E.take i)) (fun t=> t=zV w E) (s:=[]) (by simp[zV]) (by
  rintro i s hi rfl;left;have hk:=h.ok _ (wC hi);have ho:=h.one _ (wC hi);have htl:(zV w (E.take i)).length≤10000:=by have:=tails_len (w:=w) (E:=E.take i); simp at this; omega
  refine⟨zV w (E.take (i+1)),?_,rfl⟩;rw[tails_take hi];unfold F125_2_B slI;rw[qn hi,ob,hx,if_pos ⟨by omega,by omega,by rw[hk.len]; omega⟩,ob,vA,Int.toNat_zero,vI];rcases((F92_tells (l:=E[i].take w) (by simp; omega)).iff (isZero_take (by rw[hk.len]; omega))).case with⟨e,q⟩|⟨e,q⟩
  ·rw[e,ob,if_pos rfl,if_pos q,if_pos ⟨by omega,by rw[hk.len]; omega,vW _⟩,ob,vA,vJ,qH (by simp; omega) (by simp; omega),ob]
  ·rw[e,ob,if_neg wE,if_neg q]) (by
  rintro s rfl;exact⟨_,rfl,by rw[vJ]⟩)
 rw[g1,g2]
theorem kernel_same{p:Int}{w:Nat}(hp:IsP p){rows:List (List Int)}(hr:Rows p w rows)(hw:w≤1000)(hn:rows.length≤1000):∃K,F122 p rows.length rows=some K∧F125 p rows=some K∧Red p rows.length K:=by
 have hp1:1 < p:=by have:=hp.range; omega
 unfold F122 F125;rw[F122_1_eq hr hw hn,ob];simp only;by_cases h0:rows.length=0
 ·have:rows=[]:=wS h0
  subst this;have e:(jt ([]:List (List Int)).length [])=[]:=by simp[jt]
  obtain⟨E,e1, -,e3⟩:=qJ hp (rows:=[]) (w:=0+0) (fun r h=>(nomatch h)) (by omega) (by simp);have hE:E=[]:=wS (by have:=qL e3.red; omega);subst hE;rw[e,e1,ob,if_pos (by simp),if_pos (by simp)];have:=F122_2_eq (w:=0) (n:=0) e3.red (by omega);have h2:forR 0 ((([]:List (List Int)).length:Nat):Int) (xr 0 []) (xW 0 []) []=some []:=this;rw[h2];exact⟨[],rfl,rfl,⟨fun r h=>(nomatch h),fun r h=>(nomatch h),.nil⟩⟩
 ·rw[if_neg h0,if_neg (by omega)]
  obtain⟨E,e1,e2,e3⟩:=qJ hp (longs_ok hp1 hr) (by omega) (by rw[longs_len]; omega);have hpos:0 < rows.length:=by omega
  have hx0:=(hr _ (wC hpos)).len;have ht:=tails_red e3.red;rw[show(0:Int)=((0:Nat):Int) from rfl,qn hpos,ob,show((0:Nat):Int)=(0:Int) from rfl,e1,ob,F122_2_eq e3.red (by omega),ob,F125_1_eq hr hx0 hw hn,ob,e2,ob,F125_2_eq e3.red (by omega) hx0,ob,F133_self hp ht (by omega) (by have:=qL ht; omega),ob];exact⟨_,rfl,rfl,ht⟩
theorem RowOK.vec{p w:Int}{row:List Int}(h:RowOK p w row):qM p w.toNat row:=by
 have h1:=h.1;refine⟨by omega,fun j hj=>?_⟩;have hj':j < row.length:=by omega
 rw[qW hj'];have:=h.2 _ (wC hj');omega
theorem jG.dim{x:qe}(h:jG x){n:Nat}(hn:n < x.Dims.length):0≤x.Dims.getD n 0∧x.Dims.getD n 0≤8:=h.dims _ (qT hn 0)
theorem F99_at{x:qe}(hs:x.Dims.length≤1048576){n:Nat}(hn:n < x.Dims.length):F99 x (n:Int)=some (x.Dims.getD n 0):=by
 unfold F99;rw[qk (by omega) (by omega),ob,xf,ob,if_pos (by simp; omega),qp hn 0,ob]
theorem F102_at{x:qe}(hs:x.Dims.length≤1048576){n:Nat}(hn:n < x.Dims.length):F102 x (n:Int)=some (x.Dims.getD n 0):=by
 unfold F102;rw[xe hs,ob,xq,ob,if_pos (by simp; omega),qp hn 0,ob]
theorem F124_eq{n:Nat}(hn:n≤1000):F124 (n:Int)=some (jq n):=by
 unfold F124;have hl:=xx n;obtain⟨t,g1,g2⟩:=qz (B:=F124_1_B (n:Int)) (D:=F124_1_D (n:Int)) n rfl (by omega) (fun i s=> s=(jq n).take i) (fun t=> t=jq n) (s:=[]) (by simp) (by
  rintro i s hi rfl;left;refine⟨(jq n).take (i+1),?_,rfl⟩;have hzl:(zv n).length=n:=by simp[zv]
  unfold F124_1_B F132;rw[mkL_ok n rfl (by omega) (by omega),ob]
  change (((getI (zv n) (i:Int)).bind _).bind _=_)
  rw[qn (by omega),ob]
  change (((setI (zv n) (i:Int) 1).bind _).bind _=_)
  rw[zi (by omega),ob,ob,qH (by simp; omega) (by simp; omega),ob]
  congr 2
  rw[←wR (show i < (jq n).length by omega)]
  congr 2
  simp[jq,jI]) (by
  rintro s rfl;exact⟨_,rfl,by rw[wQ (by omega)]⟩)
 rw[g1,ob,g2]
theorem kernel_none{p:Int}(hp:IsP p){n:Nat}(hn:n≤1000):F122 p (n:Int) (List.replicate n [])=some (jq n):=by
 have hp1:1 < p:=by have:=hp.range; omega
 have hr:Rows p 0 (List.replicate n ([]:List Int)):=fun r hr=> by
  obtain⟨_,rfl⟩:=List.mem_replicate.1 hr;exact⟨rfl,fun j hj=> absurd hj (yO _)⟩
 have hl:(List.replicate n ([]:List Int)).length=n:=by simp
 have e0:=F122_1_eq hr (by omega) (by omega);rw[hl]at e0;have hlong:jt n (List.replicate n ([]:List Int))=jq n:=by
  unfold jt jq;refine yS fun i hi=>?_;have:i < n:=vD.1 hi;simp[qC,this]
 have hu:=jk hp1 n;obtain⟨E,e1, -,e3⟩:=qJ hp hu.ok (by omega) (by rw[xx]; omega);have hE:=e3.same hp1 (ze.self hu);subst hE;have ht:zV 0 (jq n)=jq n:=by
  unfold zV;rw[List.filter_eq_self.2 (fun r _=> by simp)]
  conv=> rhs; rw[←List.map_id (jq n)]
  exact yS fun r _=> rfl
 have h2:=F122_2_eq (w:=0) (n:=n) (by rw[wV]; exact hu) (by omega);rw[ht]at h2;have h2':forR 0 ((jq n).length:Int) (xr 0 (jq n)) (xW 0 (jq n)) []=some (jq n):=h2;unfold F122;rw[e0,ob];have hz:(if n=0 then(0:Int)else((0:Nat):Int))=0:=by split <;> rfl
 simp only;rw[hz,hlong,e1,ob,h2',ob]
theorem F76_0{x:qe}(hs:x.Dims.length≤1048576)(hl:0 < x.Dims.length){n:Nat}(hn:x.Dims.getD 0 0=n)(hn8:n≤1000):F76 x 0=some (List.replicate n []):=by
 unfold F76;rw[qk (by omega) (by omega),ob,xf,ob,if_neg (by simp)];have h99:F99 x 0=some (n:Int):=by have:=F99_at hs hl; rw[hn]at this; exact this
 obtain⟨t,g1,g2⟩:=qX (S:=F76_1_S x 0) (fun s=>(n - s.2).toNat) (fun s=> 0≤s.2∧s.2≤n∧s.1=List.replicate s.2.toNat []) (fun t=> t=List.replicate n []) (s:=([],0)) ⟨vW _,by omega,rfl⟩ (by
  rintro⟨l,j⟩ ⟨p1,p2,p3⟩;simp only at p1 p2 p3;subst p3;unfold F76_1_S;simp only;rw[h99,ob];by_cases hj:j < (n:Int)
  ·left
   rw[if_pos hj,qH (by simp; omega) (by simp; omega),ob,qk (by omega) (by omega),ob];refine⟨_,rfl,⟨by simp only; omega,by simp only; omega,?_⟩,by simp only; omega⟩;simp only;rw[show(j+1).toNat=j.toNat+1 from by omega,List.replicate_succ']
  ·right
   rw[if_neg hj];have:j.toNat=n:=by omega
   rw[this];exact⟨_,rfl,rfl⟩)
 rw[g1,ob,g2]
theorem cycles_same{x:qe}(hx:ji x)(h:jG x){n:Nat}(hn:n < x.Dims.length):∃K,F98 x (n:Int)=some K∧F100 x (n:Int)=some K∧Red x.Prime (x.Dims.getD n 0).toNat K:=by
 have hp1:1 < x.Prime:=by have:=h.p.range; omega
 have hd:=h.dim hn;have hml:=h.ml;have hxd:=hx.d;unfold F98 F100;rw[F99_at hx.d hn,ob];rcases Nat.eq_zero_or_pos n with h0|h0
 ·subst h0
  have hdn:x.Dims.getD 0 0=((x.Dims.getD 0 0).toNat:Int):=by omega
  rw[if_pos (by omega),show((0:Nat):Int)=0 from rfl,F76_0 hx.d hn hdn (by omega),ob,hdn,vA,kernel_none h.p (by omega),ob];have h102:=F102_at hx.d hn;rw[hdn]at h102;rw[show(0:Int)=((0:Nat):Int) from rfl,h102,ob,F124_eq (by omega),ob];exact⟨_,rfl,rfl,jk hp1 _⟩
 ·obtain⟨k,rfl⟩:∃k,n=k+1:=⟨n - 1,by omega⟩
  have hk:k < x.Maps.length:=by omega
  have ht:=h.tab k hk;have hdk:=h.dim (show k < x.Dims.length by omega);have e1:getI x.Maps (k:Int)=some (x.Maps.getD k []):=qp hk [];have hr:Rows x.Prime (x.Dims.getD k 0).toNat (x.Maps.getD k []):=fun r hr=>(ht.2 r hr).vec;have h76:F76 x ((k+1:Nat):Int)=some (x.Maps.getD k []):=by
   unfold F76;rw[qk (by omega) (by omega),ob,xf,ob,if_pos (by simp; omega),qk (by omega) (by omega),ob,show((k+1:Nat):Int) - 1=(k:Int) by omega,e1,ob]
  have hlen:=ht.1;obtain⟨K,k1,k2,k3⟩:=kernel_same h.p hr (by omega) (by omega);rw[h76,ob,←hlen,k1,ob,if_neg (by omega),xe hx.d,ob,if_neg (by omega),qk (by omega) (by omega),ob,show((k+1:Nat):Int) - 1=(k:Int) by omega,e1,ob,k2,ob,vA];exact⟨_,rfl,rfl,k3⟩
theorem F115_ld{r:List Int}(hl:r.length≤1048576)(h:ld r < r.length):F115 r (fun x=> F123 x)=some (ld r:Int):=by
 unfold F115;obtain⟨t,g1,g2⟩:=qz (B:=xX r (fun x=> F123 x)) (D:=F115_1_D r (fun x=> F123 x)) r.length rfl (by omega) (fun i _=> i≤ld r) (fun t=> t= .inr (ld r:Int)) (s:=()) (vO _) (by
  rintro i _ hi hI;unfold xX F123;rw[ja hi,ob,ob];by_cases q:nth r i=0
  ·left
   rw[if_neg (by simp[q])];refine⟨(),rfl,?_⟩;rcases wW i (ld r)with q2|q2
   ·exact q2
   ·have:i=ld r:=by omega
    subst this;exact absurd q (ld_ne hi)
  ·right
   rw[if_pos (by simp[q])];have:ld r=i:=by
    rcases wW i (ld r)with q2|q2
    ·exact absurd (zB q2) q
    ·omega
   exact⟨_,rfl,by rw[this]⟩) (by
  rintro _ hI;omega)
 rw[g1,ob,g2]
theorem F101_eq{p:Int}{w:Nat}{K:List (List Int)}(h:Red p w K)(hw:w≤1000):F101 K=some (K.map fun r=>(ld r:Int)):=by
 unfold F101;have hk:=qL h;obtain⟨t,g1,g2⟩:=qz (B:=F101_1_B K) (D:=F101_1_D K) K.length rfl (by omega) (fun i s=> s=(K.map fun r=>(ld r:Int)).take i) (fun t=> t=K.map fun r=>(ld r:Int)) (s:=[]) (by simp) (by
  rintro i s hi rfl;left;have hok:=h.ok _ (wC hi);have hone:=h.one _ (wC hi);refine⟨(K.map fun r=>(ld r:Int)).take (i+1),?_,rfl⟩;unfold F101_1_B;rw[qn hi,ob,F115_ld (by rw[hok.len]; omega) (by rw[hok.len]; exact hone.1),ob,qH (by simp; omega) (by simp; omega),ob]
  congr 2
  rw[←wR (show i < (K.map fun r=>(ld r:Int)).length by simpa using hi)];simp) (by
  rintro s rfl;exact⟨_,rfl,by rw[wQ (by simp)]⟩)
 rw[g1,ob,g2]
theorem jm{α β:Type}{l:List α}(g:α→β){B:Int→List β→Option (List β⊕List β)}{D:Int→List β→Option (List β)}{s0:List β}(hl:l.length≤1000000)
  (hB:∀ (k:Nat) (hk:k < l.length) (s:List β),s.length=s0.length+k→B k s=some (.inl (s++[g l[k]]))) (hD:∀i s,D i s=some s):forR 0 (l.length:Int) B D s0=some (s0++l.map g):=by
 have hlen:l.length < 4611686018427387904:=by omega
 obtain⟨t,g1,g2⟩:=qz (B:=B) (D:=D) l.length rfl hlen (fun i s=> s=s0++(l.map g).take i) (fun t=> t=s0++l.map g) (s:=s0) (by simp) (by
  rintro i s hi rfl;left;refine⟨_,hB i hi _ (by simp; omega),?_⟩;have:i < (l.map g).length:=by simpa using hi
  rw[←wR this];simp) (by
  rintro s rfl;exact⟨_,hD _ _,by rw[wQ (by simp)]⟩)
 rw[g1,g2]
def coll{β:Type}(n:Nat)(f:Nat→List β):List β:=(List.range n).flatMap f
theorem jW{β:Type}(n:Nat)(f:Nat→List β):coll (n+1) f=coll n f++f n:=by
 unfold coll; rw[List.range_succ,List.flatMap_append]; simp
theorem xO{β:Type}{f:Nat→List β}(h:∀i,(f i).length≤1):∀n,(coll n f).length≤n
 |0=> by simp[coll]
 |n+1=> by rw[jW,wM]; have:=xO h n; have:=h n; omega
theorem mem_coll{β:Type}{n:Nat}{f:Nat→List β}{b:β}:b∈coll n f↔∃i,i < n∧b∈f i:=by simp[coll]
theorem coll_map{β γ:Type}{n:Nat}{f:Nat→List β}(g:β→γ):(coll n f).map g=coll n fun i=>(f i).map g:=by simp[coll,List.map_flatMap]
theorem jF{β:Type}{n:Nat}(f:Nat→List β){B:Int→List β→Option (List β⊕List β)}{D:Int→List β→Option (List β)}(hn:n≤1000000)(h1:∀i,(f i).length≤1)
  (hB:∀ (i:Nat) (s:List β),i < n→s.length≤i→B i s=some (.inl (s++f i))) (hD:∀i s,D i s=some s):forR 0 (n:Int) B D []=some (coll n f):=by
 have hlen:n < 4611686018427387904:=by omega
 obtain⟨t,g1,g2⟩:=qz (B:=B) (D:=D) n rfl hlen (fun i s=> s=coll i f) (fun t=> t=coll n f) (s:=[]) (by simp[coll]) (by
  rintro i s hi rfl;left;exact⟨_,hB i _ hi (xO h1 i),(jW i f).symm⟩) (by
  rintro s rfl;exact⟨_,hD _ _,rfl⟩)
 rw[g1,g2]
theorem loopW_coll{β:Type}{n:Nat}(f:Nat→List β){S:List β×Int→Option ((List β×Int)⊕List β)}(h1:∀i,(f i).length≤1)
  (hB:∀ (i:Nat) (s:List β),i < n→s.length≤i→S (s,(i:Int))=some (.inl (s++f i,(i:Int)+1))) (hD:∀s:List β,S (s,(n:Int))=some (.inr s)):qY S ([],0)=some (coll n f):=by
 obtain⟨t,g1,g2⟩:=qX (S:=S) (fun s=>(n - s.2).toNat) (fun s=>∃i:Nat,s.2=i∧i≤n∧s.1=coll i f) (fun t=> t=coll n f) (s:=([],0)) ⟨0,rfl,vO _,by simp[coll]⟩ (by
  rintro⟨s,j⟩ ⟨i,p1,p2,p3⟩;simp only at p1 p3;subst p1; subst p3;by_cases hi:i < n
  ·left
   refine⟨_,hB i _ hi (xO h1 i),⟨i+1,by simp,hi,(jW i f).symm⟩,by simp only; omega⟩
  ·right
   have:i=n:=by omega
   subst this;exact⟨_,hD _,rfl⟩)
 rw[g1,g2]
def dm(x:qc)(n:Nat):Nat:=(x.Complex.Dims.getD n 0).toNat
def lv(x:qc)(n j:Nat):Int:=(x.Levels.getD n []).getD j 0
def mt(x:qc)(n:Nat):List (List Int):=x.Complex.Maps.getD (n - 1) []
theorem zx{x:qc}(h:qv x){n:Nat}(hn:n < x.Levels.length):x.Complex.Dims.getD n 0=(dm x n:Int)∧dm x n≤8∧(x.Levels.getD n []).length=dm x n:=by
 have h1:=h.vc.dim (n:=n) (by rw[←h.ll]; exact hn);have h2:=(h.lv n hn).1;unfold dm; omega
theorem F99_dm{x:qc}(hs:qB x)(h:qv x){n:Nat}(hn:n < x.Levels.length):F99 x.Complex (n:Int)=some (dm x n:Int):=by
 rw[F99_at hs.c.d (by rw[←h.ll]; exact hn),(zx h hn).1]
theorem F102_dm{x:qc}(hs:qB x)(h:qv x){n:Nat}(hn:n < x.Levels.length):F102 x.Complex (n:Int)=some (dm x n:Int):=by
 rw[F102_at hs.c.d (by rw[←h.ll]; exact hn),(zx h hn).1]
theorem F77_lv{x:qc}(h:qv x){n j:Nat}(hn:n < x.Levels.length)(hj:j < dm x n):F77 x (n:Int) (j:Int)=some (lv x n j):=
 F77_eq hn (by rw[(zx h hn).2.2]; exact hj)
def zg(x:qc)(n:Nat)(q:Int):List Int:=coll (dm x n) fun j=> if lv x n j≤q then [(j:Int)]else []
theorem one_len{c:Prop}[Decidable c]{β:Type}(a:β):(if c then [a]else []).length≤1:=by split <;> simp
theorem keptL_len{x:qc}{n:Nat}{q:Int}:(zg x n q).length≤dm x n:=xO (fun j=> one_len _) _
theorem xA{x:qc}{n:Nat}{q v:Int}:v∈zg x n q↔∃j,j < dm x n∧lv x n j≤q∧v=(j:Int):=by
 unfold zg;rw[mem_coll];constructor
 ·rintro⟨j,h1,h2⟩
  split at h2
  ·rename_i hq; exact⟨j,h1,hq,by simpa using h2⟩
  ·simp at h2
 ·rintro⟨j,h1,h2,rfl⟩
  exact⟨j,h1,by simp[h2]⟩
theorem F310_eq{x:qc}(hs:qB x)(h:qv x){n:Nat}(hn:n < x.Levels.length)(q:Int):F310 x (n:Int) q=some (zg x n q):=by
 unfold F310 zg;have hd:=(zx h hn).2.1;rw[loopW_coll (n:=dm x n) (fun j=> if lv x n j≤q then [(j:Int)]else []) (fun j=> one_len _) (by
  intro i s hi hl;unfold F310_1_S;simp only;rw[F99_dm hs h hn,ob,if_pos (by omega),F77_lv h hn hi,ob];by_cases c:lv x n i≤q
  ·rw[if_pos c,if_pos c,qH (by simp; omega) (by simp; omega),ob,qk (by omega) (by omega),ob]
  ·rw[if_neg c,if_neg c,qk (by omega) (by omega),ob,vL]) (by
  intro s;unfold F310_1_S;simp only;rw[F99_dm hs h hn,ob,if_neg (by omega)]),ob]
theorem F202_eq{x:qc}(hs:qB x)(h:qv x){n:Nat}(hn:n < x.Levels.length)(q:Int):F202 x (n:Int) q=some (zg x n q):=by
 unfold F202 zg;have hd:=zx h hn;have hll:=h.ll;rw[xe hs.c.d,ob,xq,ob,if_pos (by simp; omega),qp hn [],ob,hd.2.2,
  jF (n:=dm x n) (B:=F202_1_B q (x.Levels.getD n [])) (D:=F202_1_D q (x.Levels.getD n [])) (fun j=> if lv x n j≤q then [(j:Int)]else []) (by omega) (fun j=> one_len _) (by
  intro i s hi hl;unfold F202_1_B;rw[qp (by rw[hd.2.2]; exact hi) 0,ob]
  change (if lv x n i≤q then _ else _)=_
  by_cases c:lv x n i≤q
  ·rw[if_pos c,if_pos c,qH (by simp; omega) (by simp; omega),ob]
  ·rw[if_neg c,if_neg c,vL]) (by intro i s; rfl),ob]
theorem F202_out{x:qc}(hs:qB x)(h:qv x){n:Int}(hn:n < 0∨x.Levels.length≤n)(q:Int):F202 x n q=some []:=by
 unfold F202;have hll:=h.ll;rw[xe hs.c.d,ob,xq,ob,if_neg (by simp; omega)]
theorem F203_eq{l:List Int}(hl:l.length≤1000000)(v:Int):F203 l v=some (decide (v∈l)):=by
 unfold F203 F211;have hlen:l.length < 4611686018427387904:=by omega
 obtain⟨t,g1,g2⟩:=qz (B:=F211_1_B l v) (D:=F211_1_D l v) l.length rfl hlen (fun i _=> v∉l.take i) (fun t=>(t= .inl ()∧v∉l)∨∃m:Nat,t= .inr (m:Int)∧v∈l) (s:=()) (by simp) (by
  rintro i _ hi hI;unfold F211_1_B;rw[qn hi,ob];by_cases q:v=l[i]
  ·right
   rw[if_pos q];exact⟨_,rfl,.inr ⟨i,rfl,by rw[q]; exact wC hi⟩⟩
  ·left
   rw[if_neg q];refine⟨(),rfl,fun hr=>?_⟩;rw[←wR hi]at hr;rcases wI.1 hr with h|h
   ·exact hI h
   ·exact q (by simpa using h)) (by
  rintro _ hI;rw[vJ]at hI;exact⟨_,rfl,.inl ⟨rfl,hI⟩⟩)
 rw[g1,ob];rcases g2 with⟨rfl,h⟩|⟨m,rfl,h⟩
 ·simp[h]
 ·simp[h]
def farL(x:qc)(n:Nat)(t:Int):List Int:=coll (if n=0 then 0 else dm x (n - 1)) fun j=> if t < lv x (n - 1) j then [(j:Int)]else []
theorem mem_farL{x:qc}{n:Nat}{t v:Int}(h:v∈farL x n t):n≠0∧∃j,j < dm x (n - 1)∧v=(j:Int):=by
 unfold farL at h;rw[mem_coll]at h;obtain⟨j,h1,h2⟩:=h;split at h1
 ·omega
 ·rename_i hn
  split at h2
  ·exact⟨hn,j,h1,by simpa using h2⟩
  ·simp at h2
theorem farL_len{x:qc}(h:qv x){n:Nat}(hn:n≤x.Levels.length){t:Int}:(farL x n t).length≤8:=by
 have h1:(farL x n t).length≤if n=0 then 0 else dm x (n - 1):=xO (fun j=> one_len _) _
 split at h1
 ·omega
 ·have:=zx h (n:=n - 1) (by omega)
  omega
theorem F184_1_eq{x:qc}(hs:qB x)(h:qv x){n:Nat}(hn:n≤x.Levels.length){r q:Int}(hr: -100≤r∧r≤100)(hq: -100≤q∧q≤100)(k:List Int):
  ∃d,(chk ((n:Int) - 1))=some ((n:Int) - 1)∧F102 x.Complex ((n:Int) - 1)=some d∧forR 0 d (F184_1_B x r (n:Int) q k d) (F184_1_D x r (n:Int) q k d) []=some (farL x n (q - r)):=by
 have hll:=hs.l;have hl:=h.ll;rcases Nat.eq_zero_or_pos n with h0|h0
 ·subst h0
  refine⟨0,qk (by omega) (by omega),?_,?_⟩
  ·unfold F102
   rw[xe hs.c.d,ob,xq,ob,if_neg (by simp)]
  ·rfl
 ·obtain⟨m,rfl⟩:∃m,n=m+1:=⟨n - 1,by omega⟩
  have hm:m < x.Levels.length:=by omega
  have hd:=zx h hm;have e:((m+1:Nat):Int) - 1=(m:Int):=by omega
  refine⟨(dm x m:Int),qk (by omega) (by omega),by rw[e,F102_dm hs h hm],?_⟩;have hk:=keptL_len (x:=x) (n:=m) (q:=q - r);unfold farL;rw[if_neg (by omega),vM];refine jF _ (by omega) (fun j=> one_len _) (fun i s hi hls=>?_) (by intro i s; rfl);unfold F184_1_B;rw[qk (by omega) (by omega),ob,qk (by omega) (by omega),ob,e,F202_eq hs h hm,ob,F203_eq (by omega),ob];by_cases c:q - r < lv x m i
  ·rw[if_neg (by simp only[decide_eq_true_eq]; rw[xA]; rintro⟨j, -,h2,h3⟩; have:i=j:=(by omega); subst this; omega),if_pos c,qH (by simp; omega) (by simp; omega),ob]
  ·rw[if_pos (by simp only[decide_eq_true_eq]; rw[xA]; exact⟨i,hi,by omega,rfl⟩),if_neg c,vL]
def rowF(x:qc)(n:Nat)(t:Int)(i:Int):List Int:=(farL x n t).map fun j=> nth (qC (mt x n) i.toNat) j.toNat
def rowsF(x:qc)(n:Nat)(r q:Int):List (List Int):=(zg x n q).map (rowF x n (q - r))
theorem mt_ok{x:qc}(h:qv x){m:Nat}(hm:m+1 < x.Levels.length):m < x.Complex.Maps.length∧(mt x (m+1)).length=dm x (m+1)∧Rows x.Complex.Prime (dm x m) (mt x (m+1)):=by
 have hml:=h.vc.ml;have hl:=h.ll;have h1:m < x.Complex.Maps.length:=by omega
 have ht:=h.vc.tab m h1;have hd:=zx h hm;refine⟨h1,?_,fun r hr=>(ht.2 r hr).vec⟩;have h2:=ht.1;rw[hd.1]at h2;show(x.Complex.Maps.getD (m+1 - 1) []).length=_;rw[vM]; omega
theorem keep_get{x:qc}{n:Nat}{q:Int}{k:Nat}(hk:k < (zg x n q).length):∃i,i < dm x n∧(zg x n q)[k]=(i:Int):=by
 obtain⟨i,h1, -,h2⟩:=xA.1 (wC hk);exact⟨i,h1,h2⟩
theorem far_get{x:qc}{n:Nat}{t:Int}{k:Nat}(hk:k < (farL x n t).length):n≠0∧∃j,j < dm x (n - 1)∧(farL x n t)[k]=(j:Int):=mem_farL (wC hk)
theorem nth_mapg{α:Type}{l:List α}{g:α→Int}{j:Nat}(hj:j < l.length):nth (l.map g) j=g l[j]:=by simp[nth,hj]
theorem rowsF_ok{x:qc}(h:qv x){n:Nat}(hn:n≤x.Levels.length)(r q:Int)(hk:n=x.Levels.length→zg x n q=[]):Rows x.Complex.Prime (farL x n (q - r)).length (rowsF x n r q):=by
 intro row hrow;unfold rowsF at hrow;obtain⟨v,hv,rfl⟩:=wJ.1 hrow;obtain⟨i,hi, -,rfl⟩:=xA.1 hv;have hn':n < x.Levels.length:=by
  rcases wW n x.Levels.length with c|c
  ·exact c
  ·rw[hk (by omega)]at hv; simp at hv
 refine⟨by simp[rowF],fun j hj=>?_⟩;unfold rowF;rw[nth_mapg hj];obtain⟨n0,c,hc,hce⟩:=far_get hj;rw[hce,vA,vA];obtain⟨m,rfl⟩:∃m,n=m+1:=⟨n - 1,by omega⟩;obtain⟨-,h2,h3⟩:=mt_ok h hn';have h4:=h3 _ (zL (show i < (mt x (m+1)).length by omega));exact h4.rng c (by simpa using hc)
theorem F280_2_eq{x:qc}(hs:qB x)(h:qv x){n:Nat}(hn:n < x.Levels.length){r q:Int}(hr: -100≤r∧r≤100)(hq: -100≤q∧q≤100)(d:Int)(m5:List (List Int))(hm5:n≠0→m5=mt x n)(o:List (List Int)){k:Nat}(hk:k < (zg x n q).length):
  qY (F280_2_S x r (n:Int) q d (zg x n q) m5 o (k:Int)) ([],0)=some (rowF x n (q - r) (zg x n q)[k]):=by
 obtain⟨i,hi,hie⟩:=keep_get hk;unfold rowF farL;rw[coll_map];refine loopW_coll _ (fun j=> by rw[vS]; exact one_len _) (fun j s hj hl=>?_) fun s=>?_
 ·split at hj
  ·omega
  ·rename_i n0
   obtain⟨m,rfl⟩:∃m,n=m+1:=⟨n - 1,by omega⟩;have hm:m < x.Levels.length:=by omega
   have hsl0:=hs.l;obtain⟨h1,h2,h3⟩:=mt_ok h hn;have hd:=zx h hm;rw[vM]at hj;have e:((m+1:Nat):Int) - 1=(m:Int):=by omega
   have hrow:=h3 _ (zL (show i < (mt x (m+1)).length by omega));have hrl:=hrow.len;have hm5':=hm5 n0;subst hm5';unfold F280_2_S;simp only;rw[if_pos (by omega),qk (by omega) (by omega),ob,e,F99_dm hs h hm,ob,if_pos (by omega),F77_lv h hm hj,ob,qk (by omega) (by omega),ob,vM];by_cases c:q - r < lv x m j
   ·rw[if_pos c,if_pos c,qn hk,ob,hie,qp (show i < (mt x (m+1)).length by omega) [],ob,qp (show j < ((mt x (m+1)).getD i []).length by unfold qC at hrl; omega) 0,ob,qH (by simp; omega) (by simp; omega),ob,qk (by omega) (by omega),ob]
    rfl
   ·rw[if_neg c,if_neg c,qk (by omega) (by omega),ob,List.map_nil,vL]
 ·unfold F280_2_S
  simp only;by_cases n0:n=0
  ·subst n0
   rw[if_neg (by simp)]
  ·obtain⟨m,rfl⟩:∃m,n=m+1:=⟨n - 1,by omega⟩
   have hm:m < x.Levels.length:=by omega
   have hsl0:=hs.l;have e:((m+1:Nat):Int) - 1=(m:Int):=by omega
   rw[if_pos (by omega),qk (by omega) (by omega),ob,e,F99_dm hs h hm,ob,if_neg n0,vM,if_neg (by omega)]
theorem F280_1_eq{x:qc}(hs:qB x)(h:qv x){n:Nat}(hn:n < x.Levels.length){r q:Int}(hr: -100≤r∧r≤100)(hq: -100≤q∧q≤100)(d:Int)(m5:List (List Int))(hm5:n≠0→m5=mt x n):
  forR 0 ((zg x n q).length:Int) (F280_1_B x r (n:Int) q d (zg x n q) m5) (F280_1_D x r (n:Int) q d (zg x n q) m5) []=some (rowsF x n r q):=by
 have hk:=keptL_len (x:=x) (n:=n) (q:=q);have hd:=zx h hn;rw[jm (rowF x n (q - r)) (by omega) (fun k hk s hsl=> by
  unfold F280_1_B;rw[F280_2_eq hs h hn hr hq d m5 hm5 s hk,ob,qH (by simp; simp at hsl; omega) (by simp; simp at hsl; omega),ob]) (by intro i s; rfl)]
 rfl
theorem F184_2_eq{x:qc}(hs:qB x)(h:qv x){n:Nat}(hn:n < x.Levels.length)(r q:Int):
  forR 0 ((zg x n q).length:Int) (F184_2_B x (n:Int) (zg x n q) (farL x n (q - r))) (F184_2_D x (n:Int) (zg x n q) (farL x n (q - r))) []=some (rowsF x n r q):=by
 have hk:=keptL_len (x:=x) (n:=n) (q:=q);have hd:=zx h hn;have hfl:=farL_len h (n:=n) (by omega) (t:=q - r);rw[jm (rowF x n (q - r)) (by omega) (fun k hk s hsl=> by
  obtain⟨i,hi,hie⟩:=keep_get hk;unfold F184_2_B;rw[qn hk,ob,hie,jm (l:=farL x n (q - r)) (fun j=> nth (qC (mt x n) i) j.toNat) (by omega) (fun c hc s2 hs2=> by
   obtain⟨n0,j,hj,hje⟩:=far_get hc;obtain⟨m,rfl⟩:∃m,n=m+1:=⟨n - 1,by omega⟩;rw[vM]at hj;have hsl0:=hs.l;obtain⟨h1,h2,h3⟩:=mt_ok h hn;have hrl:=(h3 _ (zL (show i < (mt x (m+1)).length by omega))).len;have e:((m+1:Nat):Int) - 1=(m:Int):=by omega
   unfold F184_3_B;rw[qn hc,ob,qk (by omega) (by omega),ob,e,qp h1 [],ob,show x.Complex.Maps.getD m []=mt x (m+1) from rfl,qp (show i < (mt x (m+1)).length by omega) [],ob,hje,qp (show j < ((mt x (m+1)).getD i []).length by unfold qC at hrl; omega) 0,ob,qH (by simp; simp at hs2; omega) (by simp; simp at hs2; omega),ob];rfl) (by intro i s; rfl),ob,vH,qH (by simp; simp at hsl; omega) (by simp; simp at hsl; omega),ob]
  rfl) (by intro i s; rfl)]
 rfl
def xt(keep:List Int)(row:List Int)(w:Nat):Nat→List Int
 |0=> zv w
 |k+1=>(xt keep row w k).set (keep.getD k 0).toNat (nth row k)
theorem zU{keep row:List Int}{w:Nat}:∀k,(xt keep row w k).length=w
 |0=> by simp[xt,zv]
 |k+1=> by rw[xt,vZ]; exact zU k
theorem nth_set{l:List Int}{i:Nat}{v:Int}(j:Nat):nth (l.set i v) j=if i=j∧j < l.length then v else nth l j:=by
 unfold nth;rw[List.getD_eq_getElem?_getD,List.getElem?_set,List.getD_eq_getElem?_getD];by_cases h1:i=j
 ·subst h1
  by_cases h2:i < l.length
  ·simp[h2]
  ·simp[h2]
 ·simp[h1]
theorem wideN_ok{p:Int}(hp:0 < p){keep row:List Int}{w m:Nat}(hr:qM p m row):∀k,k≤m→qM p w (xt keep row w k)
 |0,_=> zM hp w
 |k+1,hk=>⟨zU _,fun j hj=> by
   have ih:=(wideN_ok hp (keep:=keep) hr k (by omega)).rng j hj;rw[xt,nth_set];split
   ·exact hr.rng k (by omega)
   ·exact ih⟩
def wides(keep:List Int)(w:Nat)(K:List (List Int)):List (List Int):=K.map fun row=> xt keep row w keep.length
theorem wide_loop{keep row:List Int}{w:Nat}(hk:keep.length≤1000000)(hv:∀v∈keep,0≤v∧v < w){B:Int→List Int→Option (List Int⊕List Int)}{D:Int→List Int→Option (List Int)}
  (hB:∀ (k:Nat) (s:List Int),k < keep.length→s.length=w→B k s=some (.inl (s.set (keep.getD k 0).toNat (nth row k)))) (hD:∀i s,D i s=some s):forR 0 (keep.length:Int) B D (zv w)=some (xt keep row w keep.length):=by
 have hlen:keep.length < 4611686018427387904:=by omega
 obtain⟨t,g1,g2⟩:=qz (B:=B) (D:=D) keep.length rfl hlen (fun i s=> s=xt keep row w i) (fun t=> t=xt keep row w keep.length) (s:=zv w) rfl (by
  rintro i s hi rfl;exact .inl ⟨_,hB i _ hi (zU i),rfl⟩) (by
  rintro s rfl;exact⟨_,hD _ _,rfl⟩)
 rw[g1,g2]
theorem F311_eq{keep:List Int}{w:Nat}{K:List (List Int)}(hk:keep.length≤1000)(hw:w≤1000)(hK:K.length≤1000)(hv:∀v∈keep,0≤v∧v < w)(hr:∀r∈K,r.length=keep.length):F311 K keep (w:Int)=some (wides keep w K):=by
 unfold F311;rw[jm (fun row=> xt keep row w keep.length) (by omega) (fun k hk2 s hsl=> by
  have hrl:=hr _ (wC hk2);unfold F311_1_B;rw[mkL_ok w rfl (by omega) (by omega),ob]
  change (forR 0 (keep.length:Int) _ _ (zv w)).bind _=_
  rw[wide_loop (row:=K[k]) (by omega) hv (by
   intro j s2 hj hs2;have hvj:=hv _ (qT hj 0);obtain⟨c,hc⟩:∃c:Nat,keep.getD j 0=c:=⟨(keep.getD j 0).toNat,by omega⟩;unfold F311_2_B;rw[qp hj 0,ob,qn hk2,ob,qn (show j < K[k].length by omega),ob,hc,qn (show c < s2.length by omega),ob,zi (show c < s2.length by omega),ob,vA,qW (by omega)]) (by intro i s; rfl),ob,qH (by simp; simp at hsl; omega) (by simp; simp at hsl; omega),ob]) (by intro i s; rfl),ob]
 rfl
theorem F184_4_eq{x:qc}(hs:qB x)(h:qv x){n:Nat}(hn:n < x.Levels.length){keep far:List Int}{K:List (List Int)}(hk:keep.length≤1000)(hK:K.length≤1000)(hv:∀v∈keep,0≤v∧v < dm x n)(hr:∀r∈K,r.length=keep.length):
  forR 0 (K.length:Int) (F184_4_B x (n:Int) keep far K) (F184_4_D x (n:Int) keep far K) []=some (wides keep (dm x n) K):=by
 have hd:=zx h hn;rw[jm (fun row=> xt keep row (dm x n) keep.length) (by omega) (fun k hk2 s hsl=> by
  have hrl:=hr _ (wC hk2);unfold F184_4_B;rw[qn hk2,ob,F102_dm hs h hn,ob,mkL_ok (dm x n) rfl (by omega) (by omega),ob]
  change (forR 0 (keep.length:Int) _ _ (zv (dm x n))).bind _=_
  rw[wide_loop (row:=K[k]) (by omega) hv (by
   intro j s2 hj hs2;have hvj:=hv _ (qT hj 0);obtain⟨c,hc⟩:∃c:Nat,keep.getD j 0=c:=⟨(keep.getD j 0).toNat,by omega⟩;unfold F184_5_B;rw[qp hj 0,ob,qn (show j < K[k].length by omega),ob,hc,qn (show c < s2.length by omega),ob,zi (show c < s2.length by omega),ob,vA,qW (by omega)]) (by intro i s; rfl),ob,qH (by simp; simp at hsl; omega) (by simp; simp at hsl; omega),ob]) (by intro i s; rfl)]
 rfl
theorem F76_at{x:qc}(hs:qB x)(h:qv x){n:Nat}(hn:n < x.Levels.length):∃m,F76 x.Complex (n:Int)=some m∧(n≠0→m=mt x n):=by
 have hl:=h.ll;have hd:=zx h hn;rcases Nat.eq_zero_or_pos n with h0|h0
 ·subst h0
  exact⟨_,F76_0 hs.c.d (by omega) hd.1 (by omega),fun h=> absurd rfl h⟩
 ·obtain⟨m,rfl⟩:∃m,n=m+1:=⟨n - 1,by omega⟩
  exact⟨_,F76_eq hs.c.d (by omega) (by have:=h.vc.ml; omega),fun _=> rfl⟩
theorem zA{x:qc}(hs:qB x)(h:qv x){n:Nat}(hn:n < x.Levels.length){r q:Int}(hr: -100≤r∧r≤100)(hq: -100≤q∧q≤100):
  ∃N,F184 x r (n:Int) q=some N∧F280 x r (n:Int) q=some N∧Red x.Complex.Prime (dm x n) N:=by
 have hp:=h.vc.p;have hp1:1 < x.Complex.Prime:=by have:=hp.range; omega
 have hd:=zx h hn;have hk:=keptL_len (x:=x) (n:=n) (q:=q);have hf:=farL_len h (n:=n) (by omega) (t:=q - r);obtain⟨d,c1,c2,c3⟩:=F184_1_eq hs h (n:=n) (by omega) hr hq (zg x n q);obtain⟨m,m1,m2⟩:=F76_at hs h hn;have hrl:(rowsF x n r q).length=(zg x n q).length:=by simp[rowsF]
 have hrows:=rowsF_ok h (n:=n) (by omega) r q (fun e=> by omega);obtain⟨K,k1,k2,k3⟩:=kernel_same hp hrows (by omega) (by omega);rw[hrl]at k1 k3;have hKl:=qL k3;have hv:∀v∈zg x n q,0≤v∧v < dm x n:=fun v hv=> by
  obtain⟨j,h1, -,rfl⟩:=xA.1 hv;omega
 have hKr:∀r∈K,r.length=(zg x n q).length:=fun r hr=>(k3.ok r hr).len;have hw:Rows x.Complex.Prime (dm x n) (wides (zg x n q) (dm x n) K):=fun r hr=> by
  obtain⟨row,hrow,rfl⟩:=wJ.1 hr;exact wideN_ok (by omega) (k3.ok row hrow) _ (wD _)
 have hwl:(wides (zg x n q) (dm x n) K).length=K.length:=by simp[wides]
 obtain⟨N,n1,n2,n3⟩:=qJ hp hw (by omega) (by omega);refine⟨N,?_,?_,n3.red⟩
 ·unfold F184
  rw[F202_eq hs h hn,ob,c1,ob,c2,ob,c3,ob,F184_2_eq hs h hn,ob,k2,ob,F184_4_eq hs h hn (by omega) (by omega) hv hKr,ob,n2,ob]
 ·unfold F280
  rw[F99_dm hs h hn,ob,F310_eq hs h hn,ob,m1,ob,F280_1_eq hs h hn hr hq _ m m2,ob,k1,ob,F311_eq (by omega) (by omega) (by omega) hv hKr,ob,n1,ob]
theorem near_top{x:qc}(hs:qB x)(h:qv x){r q:Int}(hr: -100≤r∧r≤100)(hq: -100≤q∧q≤100):F184 x r (x.Levels.length:Int) q=some []:=by
 have hp:=h.vc.p;have hp1:1 < x.Complex.Prime:=by have:=hp.range; omega
 obtain⟨d,c1,c2,c3⟩:=F184_1_eq hs h (n:=x.Levels.length) (wD _) hr hq [];obtain⟨K, -,k2,k3⟩:=kernel_same (p:=x.Complex.Prime) (w:=0) hp (rows:=[]) (fun r hr=>(nomatch hr)) (by omega) (by simp);have hK:K=[]:=by have:=qL k3; simpa using this
 subst hK;obtain⟨N, -,n2,n3⟩:=qJ (p:=x.Complex.Prime) (w:=0) hp (rows:=[]) (fun r hr=>(nomatch hr)) (by omega) (by simp);have hN:N=[]:=wS (by have:=qL n3.red; omega);subst hN;unfold F184;rw[F202_out hs h (.inr (vW _)),ob,c1,ob,c2,ob,c3,ob]
 change ((some []).bind _)=_
 rw[ob,k2,ob]
 change ((some []).bind _)=_
 rw[ob,n2,ob]
def low(x:qc)(n:Nat)(N:List (List Int)):List (List Int):=N.map fun v=> lin x.Complex.Prime (dm x n) v (mt x (n+1))
theorem low_lin{x:qc}(h:qv x){n:Nat}(hn:n+1 < x.Levels.length){N:List (List Int)}(hN:Red x.Complex.Prime (dm x (n+1)) N){v:List Int}(hv:v∈N):LinOK x.Complex.Prime (dm x n) v (mt x (n+1)):=by
 obtain⟨h1,h2,h3⟩:=mt_ok h hn;have hd:=zx h (n:=n) (by omega);have hd1:=zx h hn;have hv':=hN.ok v hv;have hvl:=hv'.len;refine⟨h.vc.p.range,fun y hy=>?_,by omega,fun l hl=>⟨(h3 l hl).len,fun y hy=>?_⟩,by omega,by omega⟩
 ·obtain⟨k,hk,rfl⟩:=wP hy
  have:=hv'.rng k (by omega)
  rwa[qW hk]at this
 ·have hl':=h3 l hl
  have hll:=hl'.len;obtain⟨k,hk,rfl⟩:=wP hy;have:=hl'.rng k (by omega)
  rwa[qW hk]at this
theorem low_ok{x:qc}(h:qv x){n:Nat}(hn:n+1 < x.Levels.length){N:List (List Int)}(hN:Red x.Complex.Prime (dm x (n+1)) N):Rows x.Complex.Prime (dm x n) (low x n N):=by
 intro r hr;obtain⟨v,hv,rfl⟩:=wJ.1 hr;have H:=low_lin h hn hN hv;have hok:=linN_ok H v.length (wD _);refine⟨hok.1,fun j hj=>?_⟩;have hj':j < (lin x.Complex.Prime (dm x n) v (mt x (n+1))).length:=by rw[lin_len H]; exact hj
 rw[qW hj'];exact hok.2 _ (wC hj')
theorem F281_eq{x:qc}(hs:qB x)(h:qv x){n:Nat}(hn:n+1 < x.Levels.length){N:List (List Int)}(hN:Red x.Complex.Prime (dm x (n+1)) N):F281 x ((n+1:Nat):Int) N=some (low x n N):=by
 have hl:=h.ll;have hNl:=qL hN;have hsl:=hs.l;have hd1:=zx h hn;unfold F281;rw[jm (fun v=> lin x.Complex.Prime (dm x n) v (mt x (n+1))) (by omega) (fun k hk s hsl2=> by
  unfold F281_1_B;have e:F76 x.Complex ((n+1:Nat):Int)=some (mt x (n+1)):=F76_eq hs.c.d (by omega) (by have:=h.vc.ml; omega);rw[e,ob,qn hk,ob,qk (by omega) (by omega),ob,show((n+1:Nat):Int) - 1=(n:Int) by omega,F99_dm hs h (by omega),ob,F80_eq (low_lin h hn hN (wC hk)) rfl,ob,qH (by simp; simp at hsl2; omega) (by simp; simp at hsl2; omega),ob]) (by intro i s; rfl),ob]
 rfl
theorem F185_1_eq{x:qc}(hs:qB x)(h:qv x){n:Nat}(hn:n+1 < x.Levels.length){N A:List (List Int)}(hN:Red x.Complex.Prime (dm x (n+1)) N)(hA:A.length≤1000):
  forR 0 (N.length:Int) (F185_1_B x (n:Int) N) (F185_1_D x (n:Int) N) A=some (A++low x n N):=by
 have hl:=h.ll;have hNl:=qL hN;have hsl:=hs.l;have hd1:=zx h hn;rw[jm (fun v=> lin x.Complex.Prime (dm x n) v (mt x (n+1))) (by omega) (fun k hk s hsl2=> by
  have hd:=zx h (n:=n) (by omega);unfold F185_1_B F91;rw[qn hk,ob,qk (by omega) (by omega),ob,if_neg (by omega),xe hs.c.d,ob,if_neg (by omega),qk (by omega) (by omega),ob,show((n:Int)+1 - 1)=(n:Int) by omega,qp (show n < x.Complex.Dims.length by omega) 0,ob,qp (show n < x.Complex.Maps.length by have:=h.vc.ml; omega) [],ob,hd.1]
  change (((F119 _ _ _ (mt x (n+1))).bind _).bind _)=_
  rw[F119_eq (low_lin h hn hN (wC hk)) rfl,ob,ob,qH (by simp; omega) (by simp; omega),ob]) (by intro i s; rfl)]
 rfl
theorem xP{x:qc}(hs:qB x)(h:qv x){n:Nat}(hn:n < x.Levels.length){r q:Int}(hr: -40≤r∧r≤40)(hq: -40≤q∧q≤40):
  ∃N,F185 x r (n:Int) q=some N∧F279 x r (n:Int) q=some N∧Red x.Complex.Prime (dm x n) N:=by
 have hp:=h.vc.p;have hd:=zx h hn;have hsl:=hs.l;obtain⟨A,a1,a2,a3⟩:=zA hs h hn (r:=r - 1) (q:=q - 1) (by omega) (by omega);have hAl:=qL a3;unfold F185 F279;rw[qk (by omega) (by omega),ob,ob,qk (by omega) (by omega),ob,ob,a1,a2,ob,ob,qH (by simp; omega) (by simp; omega),ob,qk (by omega) (by omega),ob,ob,qk (by omega) (by omega),ob,qk (by omega) (by omega),ob,vH];by_cases c:n+1 < x.Levels.length
 ·obtain⟨B,b1,b2,b3⟩:=zA hs h c (r:=r - 1) (q:=q+r - 1) (by omega) (by omega)
  have hBl:=qL b3;have hd1:=zx h c;have e:(n:Int)+1=((n+1:Nat):Int):=by omega
  have hrows:Rows x.Complex.Prime (dm x n) (A++low x n B):=fun v hv=> by
   rcases wI.1 hv with hv|hv
   ·exact a3.ok v hv
   ·exact low_ok h c b3 v hv
  have hll:(low x n B).length=B.length:=by simp[low]
  obtain⟨N,n1,n2,n3⟩:=qJ hp hrows (by omega) (by rw[wM]; omega);refine⟨N,?_,?_,n3.red⟩
  ·rw[e,b1,ob,F185_1_eq hs h c b3 (by omega),ob,n2,ob]
  ·rw[if_pos (by omega),ob,qk (by omega) (by omega),ob,e,b2,ob,F281_eq hs h c b3,ob,qH (by omega) (by omega),ob,n1,ob]
 ·have hnl:(n:Int)+1=(x.Levels.length:Int):=by omega
  obtain⟨N,n1,n2,n3⟩:=qJ hp a3.ok (by omega) (by omega);rw[if_neg (by omega),hnl,near_top hs h (by omega) (by omega),ob];refine⟨N,?_,?_,n3.red⟩
  ·change ((some A).bind _)=_
   rw[ob,n2,ob]
  ·rw[n1,ob]
theorem number_same{x:qc}(hs:qB x)(h:qv x){n:Nat}(hn:n < x.Levels.length){r q:Int}(hr: -40≤r∧r≤40)(hq: -40≤q∧q≤40):F169 x r (n:Int) q=some ((F169 x r (n:Int) q).getD 0)∧F297 x r (n:Int) q=some ((F169 x r (n:Int) q).getD 0):=by
 have hd:=zx h hn;obtain⟨A,a1,a2,a3⟩:=zA hs h hn (r:=r) (q:=q) (by omega) (by omega);obtain⟨B,b1,b2,b3⟩:=xP hs h hn hr hq;have hAl:=qL a3;have hBl:=qL b3;have e1:F169 x r (n:Int) q=some ((A.length:Int) - (B.length:Int)):=by
  unfold F169;rw[a1,ob,b1,ob,qk (by omega) (by omega),ob]
 have e2:F297 x r (n:Int) q=some ((A.length:Int) - (B.length:Int)):=by
  unfold F297;rw[a2,ob,b2,ob,qk (by omega) (by omega),ob]
 rw[e1,e2];exact⟨rfl,rfl⟩
noncomputable def numT(x:qc)(r:Int):List (List Int):=coll x.Levels.length fun(n:Nat)=>[coll 6 fun(q:Nat)=>[(F169 x r (n:Int) (q:Int)).getD 0]]
theorem F162_eq{x:qc}(hs:qB x)(h:qv x){r:Int}(hr: -40≤r∧r≤40):F162 x (fun a b=> F167 a b x r)=some (numT x r):=by
 have hl:=h.ll;have hdl:=h.vc.dl;unfold F162;rw[jF (n:=x.Levels.length) (fun(n:Nat)=>[coll 6 fun(q:Nat)=>[(F169 x r (n:Int) (q:Int)).getD 0]]) (by omega) (fun n=> by simp) (by
  intro n s hn hsl;unfold F162_1_B;have e:forR 0 6 (F162_2_B x s (n:Int) fun a b=> F167 a b x r) (F162_2_D x s (n:Int) fun a b=> F167 a b x r) []=some (coll 6 fun(q:Nat)=>[(F169 x r (n:Int) (q:Int)).getD 0]):=by
   refine jF (n:=6) _ (by omega) (fun n=> by simp) (fun q s2 hq hs2=>?_) fun i s=> rfl;have hnum:=(number_same hs h hn (r:=r) (q:=(q:Int)) hr (by omega)).1;generalize (F169 x r (n:Int) (q:Int)).getD 0=v at hnum;unfold F162_2_B F167;simp only;rw[hnum,ob,ob,qH (by simp; omega) (by simp; omega),ob]
  rw[e,ob,qH (by simp; omega) (by simp; omega),ob]) (by intro i s; rfl),ob]
 rfl
theorem F260_eq{x:qc}(hs:qB x)(h:qv x){r:Int}(hr: -40≤r∧r≤40):F260 x r=some (numT x r):=by
 have hl:=h.ll;have hdl:=h.vc.dl;unfold F260;rw[jF (n:=x.Levels.length) (fun(n:Nat)=>[coll 6 fun(q:Nat)=>[(F169 x r (n:Int) (q:Int)).getD 0]]) (by omega) (fun n=> by simp) (by
  intro n s hn hsl;unfold F260_1_B;rw[loopW_coll (n:=6) (fun(q:Nat)=>[(F169 x r (n:Int) (q:Int)).getD 0]) (fun n=> by simp) (by
   intro q s2 hq hs2;have hnum:=(number_same hs h hn (r:=r) (q:=(q:Int)) hr (by omega)).2;unfold F260_2_S;simp only;rw[if_pos (by omega),hnum,ob,qH (by simp; omega) (by simp; omega),ob,qk (by omega) (by omega),ob]) (by
   intro s2;rfl),ob,qH (by simp; omega) (by simp; omega),ob]) (by intro i s; rfl),ob]
 rfl
theorem numT_small{x:qc}(hs:qB x)(r:Int):(numT x r).length≤1048576∧∀l∈numT x r,l.length≤1048576:=by
 have hsl:=hs.l;refine⟨vP (xO (fun _=> by simp) _) hsl,fun l hl=>?_⟩;obtain⟨n, -,h2⟩:=mem_coll.1 hl;rw[List.mem_singleton]at h2;subst h2;exact vP (xO (fun _=> by simp) _) (by omega)
theorem page_code{x:qc}(hs:qB x)(r n q:Int):∃c,F166 x r n q=some c∧F247 x r n q=some c∧(c=0→qv x∧(0≤r∧r≤8)∧(0≤n∧n < x.Levels.length)∧0≤q∧q≤5):=by
 obtain⟨b,d1,d2,d3⟩:=(F38_tells hs).same (F41_tells hs);have hsl:=hs.l;have hsd:=hs.c.d;unfold F166 F247;rw[d1,d2,ob,ob];cases b with
 |false=> exact⟨1,if_neg wE,if_neg wE,fun h=> by cases h⟩
 |true=>
  have hv:=d3.1 rfl;have hll:=hv.ll;rw[if_pos rfl,if_pos rfl,xq,xf,ob,ob];by_cases c1:0≤r∧r≤8
  case neg=> exact⟨2,by rw[if_neg (by simpa using c1)],by rw[if_neg (by simpa using c1)],fun h=> by cases h⟩
  rw[if_pos (by simpa using c1),if_pos (by simpa using c1),xe hsd,ob,qk (by omega) (by omega),ob,xq,xf,ob,ob,hll];by_cases c2:0≤n∧n≤(x.Complex.Dims.length:Int) - 1
  case neg=> exact⟨2,by rw[if_neg (by simpa using c2)],by rw[if_neg (by simpa using c2)],fun h=> by cases h⟩
  rw[if_pos (by simpa using c2),if_pos (by simpa using c2),xq,xf,ob];by_cases c3:0≤q∧q≤5
  case neg=> exact⟨2,by rw[if_neg (by simpa using c3)],by rw[if_neg (by simpa using c3)],fun h=> by cases h⟩
  exact⟨0,by rw[if_pos (by simpa using c3)],by rw[if_pos (by simpa using c3)],fun _=>⟨hv,c1,by omega,c3⟩⟩
theorem table_same{x:qc}(hs:qB x)(r:Int):∃w c,F234 x r=some ⟨w,c⟩∧F148 x r=some ⟨w,c⟩∧w.length≤1048576∧∀l∈w,l.length≤1048576:=by
 obtain⟨c,c1,c2,c3⟩:=page_code hs r 0 0;unfold F234 F148;rw[c1,c2,ob,ob];by_cases hc:c=0
 ·obtain⟨hv,hr, -, -⟩:=c3 hc
  rw[if_pos hc,if_pos hc,F162_eq hs hv (by omega),F260_eq hs hv (by omega),ob];exact⟨_,_,rfl,rfl,numT_small hs r⟩
 ·rw[if_neg hc,if_neg hc]
  exact⟨_,_,rfl,rfl,by simp,by simp⟩
theorem IsP.inv{p:Int}(hp:IsP p):HasInv p:=by
 intro a h0 h1;have key:∀k m:Int,a*k=1+p*m→∃k,Cg p (a*k) 1:=fun k m e=>⟨k,m,by omega⟩;unfold IsP at hp;rcases hp with rfl|rfl|rfl|rfl
 ·have:a=1:=by omega
  subst this; exact key 1 0 (by decide)
 ·have:a=1∨a=2:=by omega
  rcases this with rfl|rfl
  ·exact key 1 0 (by decide)
  ·exact key 2 1 (by decide)
 ·have:a=1∨a=2∨a=3∨a=4:=by omega
  rcases this with rfl|rfl|rfl|rfl
  ·exact key 1 0 (by decide)
  ·exact key 3 1 (by decide)
  ·exact key 2 1 (by decide)
  ·exact key 4 3 (by decide)
 ·have:a=1∨a=2∨a=3∨a=4∨a=5∨a=6:=by omega
  rcases this with rfl|rfl|rfl|rfl|rfl|rfl
  ·exact key 1 0 (by decide)
  ·exact key 4 1 (by decide)
  ·exact key 5 2 (by decide)
  ·exact key 2 1 (by decide)
  ·exact key 3 2 (by decide)
  ·exact key 6 5 (by decide)
theorem rest_take{p:Int}{R:List (List Int)}{v:List Int}{i:Nat}(hi:i < R.length):rest p (R.take (i+1)) v=subv p (rest p (R.take i) v) R[i] (nth (rest p (R.take i) v) (ld R[i])):=by
 rw[←wR hi];unfold rest;rw[List.foldl_append];rfl
theorem F205_eq{p:Int}{w:Nat}(hp:IsP p){R:List (List Int)}(hR:Red p w R){v:List Int}(hv:qM p w v)(hw:w≤1000):F205 p v R=some (rest p R v):=by
 have hp0:0 < p:=by have:=hp.range; omega
 have hRl:=qL hR;unfold F205;rw[F96_eq (by rw[hv.len]; omega),ob,F101_eq hR hw,ob];obtain⟨t,g1,g2⟩:=qz (B:=F205_1_B p R (R.map fun r=>(ld r:Int))) (D:=F205_1_D) (hi:=((R.map fun r=>(ld r:Int)).length:Int)) R.length (by simp) (by omega) (fun i s=> s=rest p (R.take i) v) (fun t=> t=rest p R v) (s:=v) rfl (by
  rintro i s hi rfl;left;have hri:=hR.ok _ (wC hi);have hro:=hR.one _ (wC hi);have hok:=jr hp0 (R:=R.take i) (fun r hr=> hR.ok r (wN hr)) hv;have hrng:=hok.rng _ hro.1;refine⟨_,?_,(rest_take hi).symm⟩;unfold F205_1_B;rw[qn (by simpa using hi),ob,List.getElem_map,qn hi,ob,ja (by rw[hok.len]; exact hro.1),ob,F139_eq hp.range hrng hok hri (by omega),ob]) (by
  rintro s rfl;exact⟨_,rfl,by rw[vJ]⟩)
 rw[g1,g2]
theorem rest_rows{p:Int}{w:Nat}(hp0:0 < p){R N:List (List Int)}(hR:Rows p w R)(hN:Rows p w N):Rows p w (N.map (rest p R)):=fun r hr=> by
 obtain⟨v,hv,rfl⟩:=wJ.1 hr;exact jr hp0 hR (hN v hv)
theorem F204_eq{p:Int}{w:Nat}(hp:IsP p){R N:List (List Int)}(hR:Red p w R)(hN:Rows p w N)(hl:N.length≤1000)(hw:w≤1000):∃E,F204 p N R=some E∧F131 p (N.map (rest p R))=some E∧ze p w (N.map (rest p R)) E:=by
 have hp0:0 < p:=by have:=hp.range; omega
 obtain⟨E,e1,e2,e3⟩:=qJ hp (rest_rows hp0 hR.ok hN) (by omega) (by rw[vS]; omega);refine⟨E,?_,e1,e3⟩;unfold F204;rw[jm (rest p R) (by omega) (fun k hk s hsl=> by
  have hv:=hN _ (wC hk);unfold F204_1_B;rw[qn hk,ob,F205_eq hp hR hv hw,ob,qH (by simp; simp at hsl; omega) (by simp; simp at hsl; omega),ob]) (by intro i s; rfl),ob,vH,e2,ob]
theorem basis_eq{x:qc}(hs:qB x)(h:qv x){n:Nat}(hn:n < x.Levels.length){r q:Int}(hr: -40≤r∧r≤40)(hq: -40≤q∧q≤40){N B:List (List Int)}(hN:F184 x r (n:Int) q=some N)(hB:F185 x r (n:Int) q=some B)(nN:Red x.Complex.Prime (dm x n) N)(nB:Red x.Complex.Prime (dm x n) B):
  ∃E,F187 x r (n:Int) q=some E∧F131 x.Complex.Prime (N.map (rest x.Complex.Prime B))=some E∧ze x.Complex.Prime (dm x n) (N.map (rest x.Complex.Prime B)) E:=by
 have hd:=zx h hn;have hNl:=qL nN;obtain⟨E,e1,e2,e3⟩:=F204_eq h.vc.p nB nN.ok (by omega) (by omega);refine⟨E,?_,e2,e3⟩;unfold F187;rw[hN,hB,ob,ob,e1,ob]
theorem kernel_full{p:Int}{w:Nat}(hp:IsP p){rows:List (List Int)}(hr:Rows p w rows)(hw:w≤1000)(hn:rows.length≤1000):∃K,F122 p rows.length rows=some K∧F125 p rows=some K∧Red p rows.length K∧∀c,Sp p rows.length K c↔qM p rows.length c∧∀j,j < w→Cg p (dot (nth c) rows rows.length j) 0:=by
 have hp1:1 < p:=by have:=hp.range; omega
 unfold F122 F125;rw[F122_1_eq hr hw hn,ob];simp only;by_cases h0:rows.length=0
 ·have:rows=[]:=wS h0
  subst this;have e:(jt ([]:List (List Int)).length [])=[]:=by simp[jt]
  obtain⟨E,e1, -,e3⟩:=qJ hp (rows:=[]) (w:=0+0) (fun r h=>(nomatch h)) (by omega) (by simp);have hE:E=[]:=wS (by have:=qL e3.red; omega);subst hE;rw[e,e1,ob,if_pos (by simp),if_pos (by simp)];have:=F122_2_eq (w:=0) (n:=0) e3.red (by omega);have h2:forR 0 ((([]:List (List Int)).length:Nat):Int) (xr 0 []) (xW 0 []) []=some []:=this;rw[h2];refine⟨[],rfl,rfl,⟨fun r h=>(nomatch h),fun r h=>(nomatch h),.nil⟩,fun c=>⟨fun hc=>⟨hc.ok (by omega) (fun r h=> absurd h yG),fun j _=> .refl _ _⟩,fun hc=>?_⟩⟩;have:c=zv 0:=wS hc.1.len;rw[this];exact .zero
 ·rw[if_neg h0,if_neg (by omega)]
  obtain⟨E,e1,e2,e3⟩:=qJ hp (longs_ok hp1 hr) (by omega) (by rw[longs_len]; omega);have hpos:0 < rows.length:=by omega
  have hx0:=(hr _ (wC hpos)).len;have ht:=tails_red e3.red;rw[show(0:Int)=((0:Nat):Int) from rfl,qn hpos,ob,show((0:Nat):Int)=(0:Int) from rfl,e1,ob,F122_2_eq e3.red (by omega),ob,F125_1_eq hr hx0 hw hn,ob,e2,ob,F125_2_eq e3.red (by omega) hx0,ob,F133_self hp ht (by omega) (by have:=qL ht; omega),ob];exact⟨_,rfl,rfl,ht,fun c=> kernel_sp hp1 hr e3⟩
abbrev kf(c:Nat→Prop)[DecidablePred c](i:Nat):List Int:=if c i then [(i:Int)]else []
theorem coll_get{c:Nat→Prop}[DecidablePred c]:∀ {n k:Nat},k < (coll n (kf c)).length→∃i,i < n∧c i∧(coll n (kf c)).getD k 0=(i:Int)∧(coll i (kf c)).length=k
 |0,k,h=> absurd h (by simp[coll])
 |n+1,k,h=> by
  rw[jW]at h ⊢;by_cases q:k < (coll n (kf c)).length
  ·obtain⟨i,h1,h2,h3,h4⟩:=coll_get q
   refine⟨i,by omega,h2,?_,h4⟩;rw[←h3,List.getD_eq_getElem?_getD,List.getElem?_append_left q,List.getD_eq_getElem?_getD]
  ·by_cases hc:c n
   ·have e:kf c n=[(n:Int)]:=if_pos hc
    rw[e]at h ⊢;have hk:k=(coll n (kf c)).length:=by simp at h; omega
    subst hk;exact⟨n,by omega,hc,by rw[List.getD_eq_getElem?_getD]; simp,rfl⟩
   ·have e:kf c n=[]:=if_neg hc
    rw[e,vL]at h;exact absurd h q
theorem coll_at{c:Nat→Prop}[DecidablePred c]{i:Nat}(hc:c i):∀ {n:Nat},i < n→(coll i (kf c)).length < (coll n (kf c)).length∧(coll n (kf c)).getD (coll i (kf c)).length 0=(i:Int)
 |0,h=> absurd h (yO _)
 |n+1,h=> by
  rw[jW];by_cases q:i=n
  ·subst q
   have e:kf c i=[(i:Int)]:=if_pos hc;rw[e];exact⟨by simp,by rw[List.getD_eq_getElem?_getD]; simp⟩
  ·obtain⟨h1,h2⟩:=coll_at hc (n:=n) (by omega)
   refine⟨by rw[wM]; omega,?_⟩;rw[←h2,List.getD_eq_getElem?_getD,List.getElem?_append_left h1,List.getD_eq_getElem?_getD]
theorem wide_at{w:Nat}{c:Nat→Prop}[DecidablePred c]{cc:List Int}{i:Nat}(hi:i < w):∀ {k:Nat},k≤(coll w (kf c)).length→nth (xt (coll w (kf c)) cc w k) i=if c i∧(coll i (kf c)).length < k then nth cc (coll i (kf c)).length else 0
 |0,_=> by rw[xt,zk,if_neg (by omega)]
 |k+1,hk=> by
  obtain⟨i',h1,h2,h3,h4⟩:=coll_get (c:=c) (n:=w) (k:=k) (by omega);rw[xt,nth_set,h3,vA,zU,wide_at hi (by omega)];by_cases q:i'=i
  ·subst q
   rw[if_pos ⟨rfl,hi⟩,if_pos ⟨h2,by omega⟩,h4]
  ·rw[if_neg (by omega)]
   by_cases e:c i∧(coll i (kf c)).length < k
   ·rw[if_pos e,if_pos ⟨e.1,by omega⟩]
   ·rw[if_neg e,if_neg]
    rintro⟨e1,e2⟩;have e3:(coll i (kf c)).length=k:=by
     have:¬(coll i (kf c)).length < k:=fun q=> e ⟨e1,q⟩;omega
    have h5:=(coll_at e1 hi).2;rw[e3,h3]at h5;omega
theorem wide_lin{p:Int}{w:Nat}{c:Nat→Prop}[DecidablePred c](hp:0 < p):Lin p (coll w (kf c)).length w fun cc=> xt (coll w (kf c)) cc w (coll w (kf c)).length:=by
 refine⟨fun u hu=> wideN_ok hp hu _ (wD _),fun u v k hu hv=>?_⟩;refine nth_ext (by simp[subv,zU]) fun i hi=>?_;rw[zU]at hi;rw[wide_at hi (wD _),zu (zU _) (zU _) hi,wide_at hi (wD _),wide_at hi (wD _)];by_cases e:c i∧(coll i (kf c)).length < (coll w (kf c)).length
 ·rw[if_pos e,if_pos e,if_pos e,zu hu.len hv.len e.2]
 ·rw[if_neg e,if_neg e,if_neg e]; simp
theorem dot_kept{c:Nat→Prop}[DecidablePred c]{g:Nat→Int}{m:List (List Int)}{j n:Nat}:∀ {d:Nat},d≤n→dot (fun i=> if c i then g (coll i (kf c)).length else 0) m d j=sumI (fun k=> g k*nth (qC m ((coll n (kf c)).getD k 0).toNat) j) (coll d (kf c)).length
 |0,_=> by simp[dot,sumI,coll]
 |d+1,hd=> by
  have ih:=dot_kept (c:=c) (g:=g) (m:=m) (j:=j) (n:=n) (d:=d) (by omega);unfold dot at ih ⊢;show sumI _ d+_=_;rw[ih,jW];simp only;by_cases hc:c d
  ·have e:kf c d=[(d:Int)]:=if_pos hc
   have h2:=(coll_at hc (n:=n) (by omega)).2;rw[e,if_pos hc,wM,List.length_singleton];show _=sumI _ _+_;simp only;rw[h2,vA]
  ·have e:kf c d=[]:=if_neg hc
   rw[e,if_neg hc,vL]; simp
def NearP(x:qc)(r:Int)(n:Nat)(q:Int)(v:List Int):Prop:=
 qM x.Complex.Prime (dm x n) v∧(∀i,i < dm x n→q < lv x n i→nth v i=0)∧(n≠0→∀j,j < dm x (n - 1)→q - r < lv x (n - 1) j→Cg x.Complex.Prime (dot (nth v) (mt x n) (dm x n) j) 0)
theorem xJ{x:qc}(hs:qB x)(h:qv x){n:Nat}(hn:n < x.Levels.length){r q:Int}(hr: -100≤r∧r≤100)(hq: -100≤q∧q≤100){N:List (List Int)}(hN:F184 x r (n:Int) q=some N):∀v,Sp x.Complex.Prime (dm x n) N v↔NearP x r n q v:=by
 have hp:=h.vc.p;have hp0:0 < x.Complex.Prime:=by have:=hp.range; omega
 have hd:=zx h hn;have hk:=keptL_len (x:=x) (n:=n) (q:=q);have hf:=farL_len h (n:=n) (by omega) (t:=q - r);obtain⟨d,c1,c2,c3⟩:=F184_1_eq hs h (n:=n) (by omega) hr hq (zg x n q);have hrl:(rowsF x n r q).length=(zg x n q).length:=by simp[rowsF]
 have hrows:=rowsF_ok h (n:=n) (by omega) r q (fun e=> by omega);obtain⟨K,k1,k2,k3,k4⟩:=kernel_full hp hrows (by omega) (by omega);rw[hrl]at k1 k3 k4;have hKl:=qL k3;have hv:∀v∈zg x n q,0≤v∧v < dm x n:=fun v hv=> by
  obtain⟨j,h1, -,rfl⟩:=xA.1 hv;omega
 have hKr:∀r∈K,r.length=(zg x n q).length:=fun r hr=>(k3.ok r hr).len;have hw:Rows x.Complex.Prime (dm x n) (wides (zg x n q) (dm x n) K):=fun r hr=> by
  obtain⟨row,hrow,rfl⟩:=wJ.1 hr;exact wideN_ok hp0 (k3.ok row hrow) _ (wD _)
 have hwl:(wides (zg x n q) (dm x n) K).length=K.length:=by simp[wides]
 obtain⟨N', -,n2,n3⟩:=qJ hp hw (by omega) (by omega);have e:F184 x r (n:Int) q=some N':=by
  unfold F184;rw[F202_eq hs h hn,ob,c1,ob,c2,ob,c3,ob,F184_2_eq hs h hn,ob,k2,ob,F184_4_eq hs h hn (by omega) (by omega) hv hKr,ob,n2,ob]
 rw[hN]at e;obtain rfl:=wA e;have hL:Lin x.Complex.Prime (zg x n q).length (dm x n) fun cc=> xt (zg x n q) cc (dm x n) (zg x n q).length:=wide_lin (c:=fun i=> lv x n i≤q) hp0;have hat:∀ (cc:List Int) (i:Nat),i < dm x n→nth (xt (zg x n q) cc (dm x n) (zg x n q).length) i=if lv x n i≤q then nth cc (coll i (kf fun i=> lv x n i≤q)).length else 0:=fun cc i hi=> by
  have:=wide_at (c:=fun i=> lv x n i≤q) (cc:=cc) hi (wD _);refine this.trans ?_;by_cases q1:lv x n i≤q
  ·rw[if_pos ⟨q1,(coll_at (c:=fun i=> lv x n i≤q) q1 hi).1⟩,if_pos q1]
  ·rw[if_neg (fun e=> q1 e.1),if_neg q1]
 -- the numbers at places far below
 have hdot:∀ (cc:List Int) (jj:Nat) (hjj:jj < (farL x n (q - r)).length),dot (nth (xt (zg x n q) cc (dm x n) (zg x n q).length)) (mt x n) (dm x n) ((farL x n (q - r))[jj]).toNat=dot (nth cc) (rowsF x n r q) (zg x n q).length jj:=fun cc jj hjj=> by
  have h1:dot (nth (xt (zg x n q) cc (dm x n) (zg x n q).length)) (mt x n) (dm x n) ((farL x n (q - r))[jj]).toNat=dot (fun i=> if lv x n i≤q then nth cc (coll i (kf fun i=> lv x n i≤q)).length else 0) (mt x n) (dm x n) ((farL x n (q - r))[jj]).toNat:=zo fun i hi=> by rw[hat cc i hi]
  rw[h1,dot_kept (c:=fun i=> lv x n i≤q) (g:=nth cc) (wD (dm x n))];refine zo fun k hk2=>?_;have hk3:k < (zg x n q).length:=hk2;have e1:qC (rowsF x n r q) k=rowF x n (q - r) (zg x n q)[k]:=by rw[qS (by rw[hrl]; exact hk3)]; simp[rowsF]
  have e2:(coll (dm x n) (kf fun i=> lv x n i≤q)).getD k 0=(zg x n q)[k]:=by
   change (zg x n q).getD k 0=_
   simp[hk3]
  rw[e1,e2];unfold rowF;rw[nth_mapg hjj]
 intro v;rw[n3.sp v];constructor
 ·intro hv'
  obtain⟨cc,s1,rfl⟩:=hL.lift hp0 (R:=K) k3.ok hv';obtain⟨s2,s3⟩:=(k4 cc).1 s1;refine⟨hL.ok cc s2,fun i hi hlt=>?_,fun n0 j hj hlt=>?_⟩
  ·rw[hat cc i hi,if_neg (by omega)]
  ·have hfe:farL x n (q - r)=coll (dm x (n - 1)) (kf fun j=> q - r < lv x (n - 1) j):=by unfold farL; rw[if_neg n0]
   obtain⟨f1,f2⟩:=coll_at (c:=fun j=> q - r < lv x (n - 1) j) hlt hj;rw[←hfe]at f1 f2;have f3:=s3 _ f1;rw[←hdot cc _ f1]at f3;have f4:(farL x n (q - r))[(coll j (kf fun j=> q - r < lv x (n - 1) j)).length]=(j:Int):=by
    rw[←f2]; simp[f1]
   rwa[f4,vA]at f3
 ·rintro⟨v1,v2,v3⟩
  let cc:=(zg x n q).map fun i=> nth v i.toNat
  have hcc:qM x.Complex.Prime (zg x n q).length cc:=⟨by simp[cc],fun k hk2=> by
   obtain⟨i,hi,hie⟩:=keep_get hk2;rw[nth_mapg hk2,hie,vA];exact v1.rng i hi⟩
  have hcv:xt (zg x n q) cc (dm x n) (zg x n q).length=v:=nth_ext (by rw[zU,v1.len]) fun i hi=> by
   rw[zU]at hi;rw[hat cc i hi];by_cases q1:lv x n i≤q
   ·obtain⟨f1,f2⟩:=coll_at (c:=fun i=> lv x n i≤q) q1 hi
    have f1':(coll i (kf fun i=> lv x n i≤q)).length < (zg x n q).length:=f1;have f2':(zg x n q)[(coll i (kf fun i=> lv x n i≤q)).length]=(i:Int):=by
     have:(zg x n q).getD (coll i (kf fun i=> lv x n i≤q)).length 0=(i:Int):=f2;rw[←this]; simp[f1']
    rw[if_pos q1,nth_mapg f1',f2',vA]
   ·rw[if_neg q1,v2 i hi (by omega)]
  have hS:Sp x.Complex.Prime (zg x n q).length K cc:=(k4 cc).2 ⟨hcc,fun jj hjj=> by
   rw[←hdot cc jj hjj,hcv];obtain⟨n0,j,hj,hje⟩:=far_get hjj;have hjm:=wC hjj;have hlt:q - r < lv x (n - 1) j:=by
    rw[hje]at hjm;unfold farL at hjm;rw[if_neg n0,mem_coll]at hjm;obtain⟨j2, -,h2⟩:=hjm;split at h2
    ·rename_i q2
     have h3:(j:Int)=(j2:Int):=by simpa using h2
     have:j=j2:=by omega
     subst this; exact q2
    ·simp at h2
   rw[hje,vA];exact v3 n0 j hj hlt⟩
  have:=hL.sp hp0 (R:=K) k3.ok hS;rw[hcv]at this;exact this
theorem lin_at{p:Int}{n:Nat}{v:List Int}{m:List (List Int)}(H:LinOK p n v m){j:Nat}(hj:j < n):Cg p (nth (lin p n v m) j) (dot (nth v) m v.length j):=by
 have key:∀i,i≤v.length→Cg p (nth (linN p n v m i) j) (dot (nth v) m i j):=by
  intro i;induction i with
  |zero=> intro _; simp only[linN]; rw[show nth (List.replicate n (0:Int)) j=0 from zk n j]; exact .refl _ _
  |succ i ih=>
   intro hi;obtain⟨h1,h2⟩:=linN_ok H i (by omega);have hm:i < m.length:=by have:=H.hl; omega
   have hr:=H.hr _ (wC hm);have e1:v.getD i 0=v[i]:=by simp[show i < v.length by omega]
   have e2:m.getD i []=m[i]:=by simp[hm]
   have hx:=H.hv _ (wC (show i < v.length by omega));have ho:=h2 _ (wC (show j < (linN p n v m i).length by omega));have hy:=hr.2 _ (wC (show j < m[i].length by omega));obtain⟨-, -,t1, -⟩:=small_mul H.hp hx hy ho;have e3:nth (linN p n v m (i+1)) j=((linN p n v m i)[j]+v[i]*(m[i])[j]).tmod p:=by
    simp only[linN,e1,e2];rw[qW (by unfold addRow; rw[List.length_zipWith,h1,hr.1]; omega)];simp[addRow]
   have h0:0≤(linN p n v m i)[j]+v[i]*(m[i])[j]:=by have:=Int.mul_nonneg hx.1 hy.1; omega
   rw[e3,Int.tmod_eq_emod_of_nonneg h0];refine(Cg.mod _ _).trans ?_;show Cg p _ (sumI _ (i+1));unfold sumI;refine .add ?_ ?_
   ·have:=ih (by omega)
    rwa[qW (by omega)]at this
   ·rw[qW (show i < v.length by omega),qS hm,qW (show j < m[i].length by omega)]; exact .refl _ _
 exact key v.length (wD _)
def df(x:qc)(n:Nat)(v:List Int):List Int:=lin x.Complex.Prime (dm x n) v (mt x (n+1))
theorem df_linok{x:qc}(h:qv x){n:Nat}(hn:n+1 < x.Levels.length){v:List Int}(hv:qM x.Complex.Prime (dm x (n+1)) v):LinOK x.Complex.Prime (dm x n) v (mt x (n+1)):=by
 obtain⟨h1,h2,h3⟩:=mt_ok h hn;have hd:=zx h (n:=n) (by omega);have hd1:=zx h hn;have hvl:=hv.len;refine⟨h.vc.p.range,fun y hy=>?_,by omega,fun l hl=>⟨(h3 l hl).len,fun y hy=>?_⟩,by omega,by omega⟩
 ·obtain⟨k,hk,rfl⟩:=wP hy
  have:=hv.rng k (by omega)
  rwa[qW hk]at this
 ·have hl':=h3 l hl
  have hll:=hl'.len;obtain⟨k,hk,rfl⟩:=wP hy;have:=hl'.rng k (by omega)
  rwa[qW hk]at this
theorem df_at{x:qc}(h:qv x){n:Nat}(hn:n+1 < x.Levels.length){v:List Int}(hv:qM x.Complex.Prime (dm x (n+1)) v){j:Nat}(hj:j < dm x n):Cg x.Complex.Prime (nth (df x n v) j) (dot (nth v) (mt x (n+1)) (dm x (n+1)) j):=by
 have:=lin_at (df_linok h hn hv) hj
 rwa[hv.len]at this
theorem df_ok{x:qc}(h:qv x){n:Nat}(hn:n+1 < x.Levels.length){v:List Int}(hv:qM x.Complex.Prime (dm x (n+1)) v):qM x.Complex.Prime (dm x n) (df x n v):=by
 have H:=df_linok h hn hv;have hok:=linN_ok H v.length (wD _);refine⟨hok.1,fun j hj=>?_⟩;have hj':j < (df x n v).length:=by unfold df; rw[lin_len H]; exact hj
 rw[qW hj'];exact hok.2 _ (wC hj')
theorem df_lin{x:qc}(h:qv x){n:Nat}(hn:n+1 < x.Levels.length):Lin x.Complex.Prime (dm x (n+1)) (dm x n) (df x n):=by
 have hp0:0 < x.Complex.Prime:=by have:=h.vc.p.range; omega
 refine⟨fun u hu=> df_ok h hn hu,fun u v k hu hv=>?_⟩;have h1:=qU hp0 hu.len hv.len (k:=k);have d1:=df_ok h hn hu;have d2:=df_ok h hn hv;refine(df_ok h hn h1).ext (qU hp0 d1.len d2.len) fun j hj=>?_;refine(df_at h hn h1 hj).trans (Cg.trans (dot_cg fun i hi=> qZ hu.len hv.len hi) ?_);rw[dot_lin];exact Cg.symm ((qZ d1.len d2.len hj).trans (.sub (df_at h hn hu hj) (.mul (.refl _ _) (df_at h hn hv hj))))
theorem units_sp{p:Int}(hp:1 < p){n:Nat}{v:List Int}(hv:qM p n v):Sp p n (jq n) v:=by
 have hp0:0 < p:=by omega
 have hu:=jk hp n;refine(zW hp0 hu hv).1 ((jr hp0 hu.ok hv).ext (zM hp0 n) fun j hj=>?_);have hm:jI n j∈jq n:=wJ.2 ⟨j,vD.2 hj,rfl⟩;have:=rest_lead hp0 hu hv _ hm;rw[ld_unit hj]at this;rw[this,zk]; exact .refl _ _
theorem Sp.zeros{p:Int}{w:Nat}(hp:0 < p){R:List (List Int)}(h:∀r∈R,r=zv w){v:List Int}(hv:Sp p w R v):v=zv w:=by
 induction hv with
 |zero=> rfl
 | @sub v r k hv hr ih=>
  rw[ih,h r hr];exact(qU hp (zM hp w).len (zM hp w).len).ext (zM hp w) fun j hj=>(qZ (zM hp w).len (zM hp w).len hj).trans (by rw[zk]; exact⟨0,by simp⟩)
theorem df_unit{x:qc}(h:qv x){n:Nat}(hn:n+1 < x.Levels.length){i:Nat}(hi:i < dm x (n+1)):df x n (jI (dm x (n+1)) i)=qC (mt x (n+1)) i:=by
 have hp1:1 < x.Complex.Prime:=by have:=h.vc.p.range; omega
 obtain⟨h1,h2,h3⟩:=mt_ok h hn;have hu:=unitv_ok hp1 hi;refine(df_ok h hn hu).ext (h3 _ (zL (by omega))) fun j hj=>?_;refine(df_at h hn hu hj).trans ?_;rw[show dot (nth (jI (dm x (n+1)) i)) (mt x (n+1)) (dm x (n+1)) j=nth (qC (mt x (n+1)) i) j by
  rw[←dot_unit (m:=mt x (n+1)) (j:=j) hi];exact zo fun k _=> by simp only; rw[xI hi]]
 exact .refl _ _
theorem df_df{x:qc}(h:qv x){n:Nat}(hn:n+2 < x.Levels.length){v:List Int}(hv:qM x.Complex.Prime (dm x (n+2)) v):df x n (df x (n+1) v)=zv (dm x n):=by
 have hp1:1 < x.Complex.Prime:=by have:=h.vc.p.range; omega
 have hp0:0 < x.Complex.Prime:=by omega
 have hL:=(df_lin h (n:=n+1) hn).comp (df_lin h (n:=n) (by omega));have hS:=hL.sp hp0 (jk hp1 (dm x (n+2))).ok (units_sp hp1 hv);refine Sp.zeros hp0 (fun r hr=>?_) hS;obtain⟨u,hu,rfl⟩:=wJ.1 hr;obtain⟨i,hi,rfl⟩:=wJ.1 hu;have hi':=vD.1 hi;rw[df_unit h (n:=n+1) hn hi'];obtain⟨h1,h2,h3⟩:=mt_ok h hn;have hm:=zL (l:=mt x (n+2)) (i:=i) (by rw[h2]; exact hi');have hsq:=h.vc.sq (n+1) (by omega) h1 _ hm;have hd:=zx h (n:=n) (by omega);have hrow:=h3 _ hm;have hok:=df_ok h (n:=n) (by omega) hrow;refine nth_ext (by rw[hok.len]; simp[zv]) fun j hj=>?_;rw[zk,qW hj];refine hsq _ ?_;have:df x n (qC (mt x (n+2)) i)=lin x.Complex.Prime (x.Complex.Dims.getD (n+1 - 1) 0).toNat (qC (mt x (n+2)) i) (x.Complex.Maps.getD (n+1 - 1) []):=rfl;rw[←this];exact wC hj
theorem jX{x:qc}(hs:qB x)(h:qv x){n:Nat}(hn:n < x.Levels.length){r q:Int}(hr: -40≤r∧r≤40)(hq: -40≤q∧q≤40):
  ∃N A,F185 x r (n:Int) q=some N∧F279 x r (n:Int) q=some N∧Red x.Complex.Prime (dm x n) N∧F184 x (r - 1) (n:Int) (q - 1)=some A∧Red x.Complex.Prime (dm x n) A∧
   (n+1 < x.Levels.length→∃B,F184 x (r - 1) ((n+1:Nat):Int) (q+r - 1)=some B∧Red x.Complex.Prime (dm x (n+1)) B∧ze x.Complex.Prime (dm x n) (A++low x n B) N)∧(¬n+1 < x.Levels.length→ze x.Complex.Prime (dm x n) A N):=by
 have hp:=h.vc.p;have hd:=zx h hn;have hsl:=hs.l;obtain⟨A,a1,a2,a3⟩:=zA hs h hn (r:=r - 1) (q:=q - 1) (by omega) (by omega);have hAl:=qL a3;by_cases c:n+1 < x.Levels.length
 ·obtain⟨B,b1,b2,b3⟩:=zA hs h c (r:=r - 1) (q:=q+r - 1) (by omega) (by omega)
  have hBl:=qL b3;have hd1:=zx h c;have e:(n:Int)+1=((n+1:Nat):Int):=by omega
  have hrows:Rows x.Complex.Prime (dm x n) (A++low x n B):=fun v hv=> by
   rcases wI.1 hv with hv|hv
   ·exact a3.ok v hv
   ·exact low_ok h c b3 v hv
  have hll:(low x n B).length=B.length:=by simp[low]
  obtain⟨N,n1,n2,n3⟩:=qJ hp hrows (by omega) (by rw[wM]; omega);refine⟨N,A,?_,?_,n3.red,a1,a3,fun _=>⟨B,b1,b3,n3⟩,fun q=> absurd c q⟩
  ·unfold F185
   rw[qk (by omega) (by omega),ob,qk (by omega) (by omega),ob,a1,ob,qk (by omega) (by omega),ob,qk (by omega) (by omega),ob,qk (by omega) (by omega),ob,e,b1,ob,F185_1_eq hs h c b3 (by omega),ob,n2,ob]
  ·unfold F279
   rw[qk (by omega) (by omega),ob,qk (by omega) (by omega),ob,a2,ob,qH (by simp; omega) (by simp; omega),ob,qk (by omega) (by omega),ob,if_pos (by omega),qk (by omega) (by omega),ob,qk (by omega) (by omega),ob,vH,e,b2,ob,F281_eq hs h c b3,ob,qH (by omega) (by omega),ob,n1,ob]
 ·have hnl:(n:Int)+1=(x.Levels.length:Int):=by omega
  obtain⟨N,n1,n2,n3⟩:=qJ hp a3.ok (by omega) (by omega);refine⟨N,A,?_,?_,n3.red,a1,a3,fun q=> absurd q c,fun _=> n3⟩
  ·unfold F185
   rw[qk (by omega) (by omega),ob,qk (by omega) (by omega),ob,a1,ob,qk (by omega) (by omega),ob,qk (by omega) (by omega),ob,qk (by omega) (by omega),ob,hnl,near_top hs h (by omega) (by omega),ob]
   change ((some A).bind _)=_
   rw[ob,n2,ob]
  ·unfold F279
   rw[qk (by omega) (by omega),ob,qk (by omega) (by omega),ob,a2,ob,qH (by simp; omega) (by simp; omega),ob,qk (by omega) (by omega),ob,if_neg (by omega),vH,n1,ob]
theorem F91_df{x:qc}(hs:qB x)(h:qv x){n:Nat}(hn:n+1 < x.Levels.length){v:List Int}(hv:qM x.Complex.Prime (dm x (n+1)) v):F91 x.Complex ((n+1:Nat):Int) v=some (df x n v):=by
 have hl:=h.ll;have hsl:=hs.l;have hd:=zx h (n:=n) (by omega);unfold F91;rw[if_neg (by omega),xe hs.c.d,ob,if_neg (by omega),qk (by omega) (by omega),ob,show(((n+1:Nat):Int) - 1)=(n:Int) by omega,qp (show n < x.Complex.Dims.length by omega) 0,ob,qp (show n < x.Complex.Maps.length by have:=h.vc.ml; omega) [],ob,hd.1]
 change (((F119 _ _ _ (mt x (n+1))).bind _))=_
 rw[F119_eq (df_linok h hn hv) rfl,ob];rfl
theorem df_near{x:qc}(h:qv x){m:Nat}(hm:m+1 < x.Levels.length){t:Int}(r':Int){z:List Int}(hz:qM x.Complex.Prime (dm x (m+1)) z)(hd:∀j,j < dm x m→t < lv x m j→Cg x.Complex.Prime (dot (nth z) (mt x (m+1)) (dm x (m+1)) j) 0):NearP x r' m t (df x m z):=by
 have hp0:0 < x.Complex.Prime:=by have:=h.vc.p.range; omega
 have hok:=df_ok h hm hz;refine⟨hok,fun i hi hlt=>?_,fun m0 j hj _=>?_⟩
 ·exact((df_at h hm hz hi).trans (hd i hi hlt)).eq (hok.rng i hi).1 (hok.rng i hi).2 (vW _) hp0
 ·obtain⟨k,rfl⟩:∃k,m=k+1:=⟨m - 1,by omega⟩
  rw[vM]at hj;have h1:=df_at h (n:=k) (by omega) hok hj;rw[df_df h hm hz,zk]at h1;exact h1.symm
theorem bot_near{x:qc}(hs:qB x)(h:qv x){n:Nat}(hn:n < x.Levels.length){r q:Int}(hr: -40≤r∧r≤40)(hq: -40≤q∧q≤40){N B:List (List Int)}(hN:F184 x r (n:Int) q=some N)(nN:Red x.Complex.Prime (dm x n) N)(hB:F185 x r (n:Int) q=some B):∀v,Sp x.Complex.Prime (dm x n) B v→Sp x.Complex.Prime (dm x n) N v:=by
 have hp0:0 < x.Complex.Prime:=by have:=h.vc.p.range; omega
 obtain⟨B',A,b1, -,b3,b4,b5,b6,b7⟩:=jX hs h hn hr hq;rw[hB]at b1;obtain rfl:=wA b1;have hA:∀v∈A,Sp x.Complex.Prime (dm x n) N v:=fun v hv=> by
  obtain⟨v1,v2,v3⟩:=(xJ hs h hn (by omega) (by omega) b4 v).1 (.mem hp0 b5.ok hv);exact(xJ hs h hn (by omega) (by omega) hN v).2 ⟨v1,fun i hi hlt=> v2 i hi (by omega),fun n0 j hj hlt=> v3 n0 j hj (by omega)⟩
 intro v hv;by_cases c:n+1 < x.Levels.length
 ·obtain⟨D,d1,d2,d3⟩:=b6 c
  refine((d3.sp v).1 hv).into hp0 nN.ok fun r' hr'=>?_;rcases wI.1 hr' with q1|q1
  ·exact hA r' q1
  ·obtain⟨z,hz,rfl⟩:=wJ.1 q1
   obtain⟨z1,z2,z3⟩:=(xJ hs h c (by omega) (by omega) d1 z).1 (.mem hp0 d2.ok hz);exact(xJ hs h hn (by omega) (by omega) hN _).2 (df_near h c r z1 fun j hj hlt=> z3 (by omega) j hj (show q+r - 1 - (r - 1) < lv x n j by omega))
 ·exact(((b7 c).sp v).1 hv).into hp0 nN.ok hA
theorem df_bot{x:qc}(hs:qB x)(h:qv x){m:Nat}(hm:m+1 < x.Levels.length){r q:Int}(hr:0≤r∧r≤8)(hq: -10≤q∧q≤10){B B':List (List Int)}(hB:F185 x r ((m+1:Nat):Int) q=some B)(hB':F185 x r (m:Int) (q - r)=some B'):∀v,Sp x.Complex.Prime (dm x (m+1)) B v→Sp x.Complex.Prime (dm x m) B' (df x m v):=by
 have hp0:0 < x.Complex.Prime:=by have:=h.vc.p.range; omega
 obtain⟨B1,A,b1, -,b3,b4,b5,b6,b7⟩:=jX hs h hm (r:=r) (q:=q) (by omega) (by omega);rw[hB]at b1;obtain rfl:=wA b1;obtain⟨B2,A',c1, -,c3,c4,c5,c6,c7⟩:=jX hs h (n:=m) (by omega) (r:=r) (q:=q - r) (by omega) (by omega);rw[hB']at c1;obtain rfl:=wA c1;obtain⟨D,d1,d2,d3⟩:=c6 hm;rw[show q - r+r - 1=q - 1 by omega,b4]at d1;obtain rfl:=wA d1;have hL:=df_lin h hm;have hA:∀v∈A,Sp x.Complex.Prime (dm x m) B' (df x m v):=fun v hv=> by
  have hrow:Rows x.Complex.Prime (dm x m) (A'++low x m A):=fun r hr=> by
   rcases wI.1 hr with q1|q1
   ·exact c5.ok r q1
   ·exact low_ok h hm b5 r q1
  exact(d3.sp _).2 (.mem hp0 hrow (wY _ (List.mem_map_of_mem hv)))
 intro v hv;by_cases c:m+1+1 < x.Levels.length
 ·obtain⟨G,g1,g2,g3⟩:=b6 c
  have hrow:Rows x.Complex.Prime (dm x (m+1)) (A++low x (m+1) G):=fun r hr=> by
   rcases wI.1 hr with q1|q1
   ·exact b5.ok r q1
   ·exact low_ok h c g2 r q1
  refine(hL.sp hp0 hrow ((g3.sp v).1 hv)).into hp0 c3.ok fun r' hr'=>?_;obtain⟨y,hy,rfl⟩:=wJ.1 hr';rcases wI.1 hy with q1|q1
  ·exact hA y q1
  ·obtain⟨z,hz,rfl⟩:=wJ.1 q1
   have:df x m (df x (m+1) z)=zv (dm x m):=df_df h c (g2.ok z hz)
   change Sp _ _ _ (df x m (df x (m+1) z))
   rw[this];exact .zero
 ·refine(hL.sp hp0 b5.ok (((b7 c).sp v).1 hv)).into hp0 c3.ok fun r' hr'=>?_
  obtain⟨y,hy,rfl⟩:=wJ.1 hr';exact hA y hy
def co(x:qc)(m:Nat)(T B':List (List Int))(z:List Int):List Int:=zw T (rest x.Complex.Prime B' (df x m z))
theorem F188_eq{p:Int}{w:Nat}(hp:IsP p){T B:List (List Int)}(hT:Red p w T)(hB:Red p w B){v:List Int}(hv:qM p w v)(hw:w≤1000):F188 p v T B=some (zw T (rest p B v)):=by
 have hp0:0 < p:=by have:=hp.range; omega
 have hTl:=qL hT;have hok:=jr hp0 hB.ok hv;unfold F188;rw[F205_eq hp hB hv hw,ob,F101_eq hT hw,ob,jm (l:=T.map fun r=>(ld r:Int)) (fun i=> nth (rest p B v) i.toNat) (by simp; omega) (fun k hk s hsl=> by
  have hk':k < T.length:=by simpa using hk
  have hone:=hT.one _ (wC hk');unfold F188_1_B;rw[qn hk,ob,List.getElem_map,ja (by rw[hok.len]; exact hone.1),ob,qH (by simp; simp at hsl; omega) (by simp; simp at hsl; omega),ob,vA]) (by intro i s; rfl),ob,vH]
 unfold zw;rw[List.map_map];rfl
theorem rank_same{x:qc}(hs:qB x)(h:qv x){m:Nat}(hm:m+1 < x.Levels.length){r q:Int}(hr:0≤r∧r≤8)(hq:0≤q∧q≤5)(hrq:r≤q):
  ∃M E,F170 x r ((m+1:Nat):Int) q=some M∧F133 x.Complex.Prime M=some E∧F248 x r ((m+1:Nat):Int) q=some (E.length:Int):=by
 have hp:=h.vc.p;have hp1:1 < x.Complex.Prime:=by have:=hp.range; omega
 have hp0:0 < x.Complex.Prime:=by omega
 have hsl:=hs.l;have hd:=zx h hm;have hd0:=zx h (n:=m) (by omega);obtain⟨N,n1,n2,n3⟩:=zA hs h hm (r:=r) (q:=q) (by omega) (by omega);obtain⟨N',n1',n2',n3'⟩:=zA hs h (n:=m) (by omega) (r:=r) (q:=q - r) (by omega) (by omega);obtain⟨B,b1,b2,b3⟩:=xP hs h hm (r:=r) (q:=q) (by omega) (by omega);obtain⟨B',b1',b2',b3'⟩:=xP hs h (n:=m) (by omega) (r:=r) (q:=q - r) (by omega) (by omega);obtain⟨Z,z1, -,z3⟩:=basis_eq hs h hm (by omega) (by omega) n1 b1 n3 b3;obtain⟨T,t1, -,t3⟩:=basis_eq hs h (n:=m) (by omega) (r:=r) (q:=q - r) (by omega) (by omega) n1' b1' n3' b3';have hNl:=qL n3;have hZl:=qL z3.red;have hTl:=qL t3.red;have hBl':=qL b3';have hL:=df_lin h hm;have hBN:=bot_near hs h hm (by omega) (by omega) n1 n3 b1;have hdB:=df_bot hs h hm hr (by omega) b1 b1'
 -- the table
 have hM:F170 x r ((m+1:Nat):Int) q=some (Z.map (co x m T B')):=by
  unfold F170;rw[z1,ob,jm (co x m T B') (by omega) (fun k hk s hsl2=> by
   have hz:=z3.red.ok _ (wC hk);unfold F170_1_B;rw[qn hk,ob,if_pos (by omega),if_pos hrq,F91_df hs h hm hz,ob,qk (by omega) (by omega),ob,qk (by omega) (by omega),ob,show(((m+1:Nat):Int) - 1)=(m:Int) by omega,t1,ob,b1',ob,F188_eq hp t3.red b3' (df_ok h hm hz) (by omega),ob,qH (by simp; simp at hsl2; omega) (by simp; simp at hsl2; omega),ob];rfl) (by intro i s; rfl),ob,vH]
 have hψ:Lin x.Complex.Prime (dm x m) T.length fun u=> zw T (rest x.Complex.Prime B' u):=(rest_lin hp0 b3'.ok fun t ht=>(b3'.one t ht).1).comp (leads_lin hp0 fun t ht=>(t3.red.one t ht).1);have hg:∀z∈Z,qM x.Complex.Prime T.length (co x m T B' z):=fun z hz=> hψ.ok _ (df_ok h hm (z3.red.ok z hz));have hgr:Rows x.Complex.Prime T.length (Z.map (co x m T B')):=fun v hv=> by
  obtain⟨z,hz,rfl⟩:=wJ.1 hv;exact hg z hz
 obtain⟨E', -,e2,e3⟩:=qJ hp hgr (by omega) (by rw[vS]; omega)
 -- the specification's list
 have hX:Rows x.Complex.Prime (dm x m) (B'++low x m N):=fun v hv=> by
  rcases wI.1 hv with q1|q1
  ·exact b3'.ok v q1
  ·exact low_ok h hm n3 v q1
 have hY:Rows x.Complex.Prime (dm x m) (B'++Z.map (df x m)):=fun v hv=> by
  rcases wI.1 hv with q1|q1
  ·exact b3'.ok v q1
  ·obtain⟨z,hz,rfl⟩:=wJ.1 q1
   exact df_ok h hm (z3.red.ok z hz)
 have hll:(low x m N).length=N.length:=by simp[low]
 obtain⟨E,e1, -,e4⟩:=qJ hp hX (by omega) (by rw[wM]; omega);have hZN:∀z∈Z,Sp x.Complex.Prime (dm x (m+1)) N z:=fun z hz=> by
  refine((z3.sp z).1 (.mem hp0 z3.red.ok hz)).into hp0 n3.ok fun v hv=>?_;obtain⟨u,hu,rfl⟩:=wJ.1 hv;exact(jJ hp0 n3.ok b3.ok (fun b hb=> hBN b (.mem hp0 b3.ok hb)) (n3.ok u hu)).2 (.mem hp0 n3.ok hu)
 have hZB:Rows x.Complex.Prime (dm x (m+1)) (Z++B):=fun v hv=> by
  rcases wI.1 hv with q1|q1
  ·exact z3.red.ok v q1
  ·exact b3.ok v q1
 have hNZ:∀v∈N,Sp x.Complex.Prime (dm x (m+1)) (Z++B) v:=fun v hv=> by
  refine rest_back hp0 hZB b3.ok (fun b hb=> .mem hp0 hZB (wY _ hb)) (n3.ok v hv) ?_;exact((z3.sp _).2 (.mem hp0 (rest_rows hp0 b3.ok n3.ok) (List.mem_map_of_mem hv))).mono fun u hu=> wZ _ hu
 have hXY:∀v,Sp x.Complex.Prime (dm x m) (B'++low x m N) v↔Sp x.Complex.Prime (dm x m) (B'++Z.map (df x m)) v:=by
  intro v;constructor
  ·refine fun hv=> hv.into hp0 hY fun u hu=>?_
   rcases wI.1 hu with q1|q1
   ·exact .mem hp0 hY (wZ _ q1)
   ·obtain⟨y,hy,rfl⟩:=wJ.1 q1
    refine(hL.sp hp0 hZB (hNZ y hy)).into hp0 hY fun s hs'=>?_;obtain⟨a,ha,rfl⟩:=wJ.1 hs';rcases wI.1 ha with q2|q2
    ·exact .mem hp0 hY (wY _ (List.mem_map_of_mem q2))
    ·exact(hdB a (.mem hp0 b3.ok q2)).mono fun b hb=> wZ _ hb
  ·refine fun hv=> hv.into hp0 hX fun u hu=>?_
   rcases wI.1 hu with q1|q1
   ·exact .mem hp0 hX (wZ _ q1)
   ·obtain⟨y,hy,rfl⟩:=wJ.1 q1
    exact(hL.sp hp0 n3.ok (hZN y hy)).mono fun b hb=> wY _ hb
 have e5:ze x.Complex.Prime (dm x m) (B'++Z.map (df x m)) E:=⟨e4.red,fun v=>(e4.sp v).trans (hXY v)⟩;have hdN':∀z∈Z,Sp x.Complex.Prime (dm x m) N' (df x m z):=fun z hz=> by
  obtain⟨v1,v2,v3⟩:=(xJ hs h hm (by omega) (by omega) n1 z).1 (hZN z hz);exact(xJ hs h (n:=m) (by omega) (by omega) (by omega) n1' _).2 (df_near h hm r v1 fun j hj hlt=> v3 (by omega) j hj hlt)
 have hrk:=rank_pair hp1 hp.inv b3'.ok (ze.self b3') (f:=df x m) (g:=co x m T B') (fun z hz=> df_ok h hm (z3.red.ok z hz)) hg (fun k hk=> by
  have hzk:=wC hk;have hzo:=z3.red.ok _ hzk;have hr1:Rows x.Complex.Prime (dm x m) ((Z.take k).map (df x m)):=fun v hv=> by
   obtain⟨z,hz,rfl⟩:=wJ.1 hv;exact df_ok h hm (z3.red.ok z (wN hz))
  have hr2:Rows x.Complex.Prime (dm x m) (B'++(Z.take k).map (df x m)):=fun v hv=> by
   rcases wI.1 hv with q1|q1
   ·exact b3'.ok v q1
   ·exact hr1 v q1
  have hr3:Rows x.Complex.Prime T.length ((Z.take k).map (co x m T B')):=fun v hv=> by
   obtain⟨z,hz,rfl⟩:=wJ.1 hv;exact hg z (wN hz)
  have em:((Z.take k).map (df x m)).map (fun u=> zw T (rest x.Complex.Prime B' u))=(Z.take k).map (co x m T B'):=by rw[List.map_map]; rfl
  constructor
  ·intro hS
   refine(hψ.sp hp0 hr2 hS).into hp0 hr3 fun v hv=>?_;obtain⟨u,hu,rfl⟩:=wJ.1 hv;rcases wI.1 hu with q1|q1
   ·have e0:rest x.Complex.Prime B' u=zv (dm x m):=(zW hp0 b3' (b3'.ok u q1)).2 (.mem hp0 b3'.ok q1)
    rw[e0,(leads_lin hp0 fun t ht=>(t3.red.one t ht).1).zero hp0];exact .zero
   ·obtain⟨z,hz,rfl⟩:=wJ.1 q1
    exact .mem hp0 hr3 (List.mem_map_of_mem hz)
  ·intro hS
   rw[←em]at hS;obtain⟨u,hu,hue⟩:=hψ.lift hp0 hr1 hS;have hN1:Sp x.Complex.Prime (dm x m) N' u:=hu.into hp0 n3'.ok fun v hv=> by
    obtain⟨z,hz,rfl⟩:=wJ.1 hv;exact hdN' z (wN hz)
   have huo:=hu.ok hp0 hr1;have hdo:=df_ok h hm hzo;have hN2:=Sp.lin hp0 n3'.ok (hdN' _ hzk) hN1 1;have hN2o:=hN2.ok hp0 n3'.ok;have h1:Sp x.Complex.Prime (dm x m) T (rest x.Complex.Prime B' (subv x.Complex.Prime (df x m Z[k]) u 1)):=(t3.sp _).2 ((rest_lin hp0 b3'.ok fun t ht=>(b3'.one t ht).1).sp hp0 n3'.ok hN2);have h2:zw T (rest x.Complex.Prime B' (subv x.Complex.Prime (df x m Z[k]) u 1))=zv T.length:=by
    have:=hψ.sub _ _ 1 hdo huo;rw[this,hue];exact sub_self hp0 (hψ.ok _ hdo)
   have h3:=(zW hp0 b3' hN2o).1 (leads_zero hp0 t3.red h1 h2);exact(sub_iff hp0 hr2 hdo (hu.mono fun v hv=> wY _ hv) 1).1 (h3.mono fun v hv=> wZ _ hv)) e5 e3
 refine⟨_,E',hM,e2,?_⟩;unfold F248;have hEl:=qL e4.red;have c1:chk ((E.length:Int) - (B'.length:Int))=some ((E'.length:Int)):=by
  rw[show(E.length:Int) - (B'.length:Int)=(E'.length:Int) by omega];exact qk (by omega) (by omega)
 rw[if_neg (by omega),if_neg (by omega),qk (by omega) (by omega),ob,qk (by omega) (by omega),ob,show(((m+1:Nat):Int) - 1)=(m:Int) by omega,b2',ob];rw[qH (by simp; omega) (by simp; omega),ob,n2,ob,F281_eq hs h hm n3,ob,vH];rw[qH (by omega) (by omega),ob,e1,ob,c1,ob]
theorem rank_none{x:qc}(hs:qB x)(h:qv x){n:Nat}(hn:n < x.Levels.length){r q:Int}(hr:0≤r∧r≤8)(hq:0≤q∧q≤5)(h0:n=0∨q < r):
  ∃M,F170 x r (n:Int) q=some M∧F133 x.Complex.Prime M=some []∧F248 x r (n:Int) q=some 0:=by
 have hp:=h.vc.p;have hsl:=hs.l;have hd:=zx h hn;obtain⟨N,n1,n2,n3⟩:=zA hs h hn (r:=r) (q:=q) (by omega) (by omega);obtain⟨B,b1,b2,b3⟩:=xP hs h hn (r:=r) (q:=q) (by omega) (by omega);obtain⟨Z,z1, -,z3⟩:=basis_eq hs h hn (by omega) (by omega) n1 b1 n3 b3;have hZl:=qL z3.red;have hrow:Rows x.Complex.Prime 0 (Z.map fun _=>([]:List Int)):=fun v hv=> by
  obtain⟨z,hz,rfl⟩:=wJ.1 hv;exact⟨rfl,fun j hj=> by omega⟩
 obtain⟨E, -,e2,e3⟩:=qJ hp hrow (by omega) (by rw[vS]; omega);have hE:E=[]:=wS (by have:=qL e3.red; omega);subst hE;refine⟨_,?_,e2,?_⟩
 ·unfold F170
  rw[z1,ob,jm (fun _=>([]:List Int)) (by omega) (fun k hk s hsl2=> by
   unfold F170_1_B;rw[qn hk,ob];by_cases c1:(0:Int) < n
   ·rw[if_pos c1,if_neg (by omega),qH (by simp; simp at hsl2; omega) (by simp; simp at hsl2; omega),ob]
   ·rw[if_neg c1,qH (by simp; simp at hsl2; omega) (by simp; simp at hsl2; omega),ob]) (by intro i s; rfl),ob,vH]
 ·unfold F248
  by_cases c:(n:Int)=0
  ·rw[if_pos c]
  ·rw[if_neg c,if_pos (by omega)]
def LTells(o:Option (Unit⊕(Unit⊕Bool)))(P:Prop):Prop:=∃b:Bool,o=some (if b=true then .inl ()else .inr (.inr false))∧(b=true↔P)
theorem LTells.iff{o:Option (Unit⊕(Unit⊕Bool))}{P Q:Prop}(h:LTells o P)(e:P↔Q):LTells o Q:=by
 obtain⟨b,h1,h2⟩:=h; exact⟨b,h1,h2.trans e⟩
def WTells(o:Option (Int⊕(Unit⊕Bool)))(i:Int)(P:Prop):Prop:=∃b:Bool,o=some (if b=true then .inl (i+1)else .inr (.inr false))∧(b=true↔P)
theorem WTells.iff{o:Option (Int⊕(Unit⊕Bool))}{i:Int}{P Q:Prop}(h:WTells o i P)(e:P↔Q):WTells o i Q:=by
 obtain⟨b,h1,h2⟩:=h; exact⟨b,h1,h2.trans e⟩
def dc(x:qe)(n:Nat):Nat:=(x.Dims.getD n 0).toNat
theorem dc_le{x:qe}(h:jG x)(n:Nat):dc x n≤8:=by
 unfold dc;by_cases hn:n < x.Dims.length
 ·have:=h.dim hn; omega
 ·rw[List.getD_eq_getElem?_getD,List.getElem?_eq_none (by omega)]; simp
theorem dc_at{x:qe}(h:jG x){n:Nat}(hn:n < x.Dims.length):x.Dims.getD n 0=(dc x n:Int):=by
 have:=h.dim hn;unfold dc; omega
theorem F99_dc{x:qe}(hx:ji x)(h:jG x){n:Nat}(hn:n≤x.Dims.length):F99 x (n:Int)=some (dc x n:Int):=by
 have hd:=hx.d;by_cases c:n < x.Dims.length
 ·rw[F99_at hx.d c,dc_at h c]
 ·have e:n=x.Dims.length:=by omega
  subst e;have:dc x x.Dims.length=0:=by unfold dc; rw[List.getD_eq_getElem?_getD,List.getElem?_eq_none (by omega)]; rfl
  unfold F99;rw[qk (by omega) (by omega),ob,xf,ob,if_neg (by simp; omega),this];rfl
theorem bounds_same{x:qe}(hx:ji x)(h:jG x){n:Nat}(hn:n < x.Dims.length):∃B,F251 x (n:Int)=some B∧F186 x (n:Int)=some B∧Red x.Prime (dc x n) B:=by
 have hd:=hx.d;have hml:=h.ml;have hdl:=h.dl;unfold F251 F186;rw[qk (by omega) (by omega),ob,if_neg (by omega),xe hx.d,ob];by_cases c:n+1 < x.Dims.length
 ·have ht:=h.tab n (by omega)
  have hr:Rows x.Prime (dc x n) (x.Maps.getD n []):=fun r hr=>(ht.2 r hr).vec;have hl:=ht.1;have hd1:=h.dim c;have:=dc_le h n;obtain⟨B,b1,b2,b3⟩:=qJ h.p hr (by omega) (by omega);rw[show(n:Int)+1=((n+1:Nat):Int) by omega,F76_eq hx.d c (by omega),ob,b1,ob,if_neg (by omega),qp (show n < x.Maps.length by omega) [],ob,b2,ob];exact⟨B,rfl,rfl,b3.red⟩
 ·obtain⟨N,n1, -,n3⟩:=qJ (p:=x.Prime) (w:=dc x n) h.p (rows:=[]) (fun r hr=>(nomatch hr)) (by have:=dc_le h n; omega) (by simp)
  have hN:N=[]:=by have:=n3.same (by have:=h.p.range; omega) (ze.nil x.Prime (dc x n)); exact this
  subst hN;have e:F76 x ((n:Int)+1)=some []:=by
   unfold F76;rw[qk (by omega) (by omega),ob,xf,ob,if_neg (by simp; omega)];have h99:=F99_dc hx h (n:=n+1) (by omega);have h0:dc x (n+1)=0:=by unfold dc; rw[List.getD_eq_getElem?_getD,List.getElem?_eq_none (by omega)]; rfl
   rw[h0]at h99;obtain⟨t,g1,g2⟩:=qX (S:=F76_1_S x ((n:Int)+1)) (fun s=> 0) (fun s=> s=([],0)) (fun t=> t=[]) (s:=([],0)) rfl (by
    rintro s rfl;right;unfold F76_1_S;simp only;rw[show(n:Int)+1=((n+1:Nat):Int) by omega,h99,ob,if_neg (by simp)];exact⟨_,rfl,rfl⟩)
   rw[g1,ob,g2]
  rw[e,ob,n1,ob,if_pos (by omega)];exact⟨[],rfl,rfl,n3.red⟩
structure PT (s0 ms:T3s) (φ:Nat→Nat→Nat→Nat×Nat×Nat) (val:Nat→Nat→Nat→Int) (D:Nat→Nat→Nat→Prop) (s:T3s):Prop where
 shp:Shp s s0
 at':∀k i j,InT ms k i j→(D k i j→numAt s (φ k i j).1 (φ k i j).2.1 (φ k i j).2.2=val k i j)∧(¬D k i j→numAt s (φ k i j).1 (φ k i j).2.1 (φ k i j).2.2=numAt s0 (φ k i j).1 (φ k i j).2.1 (φ k i j).2.2)
 out:∀a b c,InT s0 a b c→(∀k i j,InT ms k i j→φ k i j≠(a,b,c))→numAt s a b c=numAt s0 a b c
theorem PT.zero{s0 ms:T3s}{φ:Nat→Nat→Nat→Nat×Nat×Nat}{val:Nat→Nat→Nat→Int}:PT s0 ms φ val (fun _ _ _=> False) s0:=⟨.refl _,fun k i j _=>⟨fun x=> x.elim,fun _=> rfl⟩,fun _ _ _ _ _=> rfl⟩
theorem bounds_full{x:qe}(hx:ji x)(h:jG x){n:Nat}(hn:n < x.Dims.length):∃B,F251 x (n:Int)=some B∧F186 x (n:Int)=some B∧Red x.Prime (dc x n) B∧(n+1 < x.Dims.length→ze x.Prime (dc x n) (x.Maps.getD n []) B)∧(¬n+1 < x.Dims.length→B=[]):=by
 have hd:=hx.d;have hml:=h.ml;have hdl:=h.dl;obtain⟨B,b1,b2,b3⟩:=bounds_same hx h hn;refine⟨B,b1,b2,b3,fun c=>?_,fun c=>?_⟩
 ·have ht:=h.tab n (by omega)
  have hr:Rows x.Prime (dc x n) (x.Maps.getD n []):=fun r hr=>(ht.2 r hr).vec;have hl:=ht.1;have hd1:=h.dim c;have:=dc_le h n;obtain⟨B',b1',b2',b3'⟩:=qJ h.p hr (by omega) (by omega);unfold F186 at b2;rw[xe hx.d,ob,if_neg (by omega),if_neg (by omega),qp (show n < x.Maps.length by omega) [],ob,b2',ob]at b2;have:=wA b2;subst this;exact b3'
 ·unfold F186 at b2
  rw[xe hx.d,ob,if_neg (by omega),if_pos (by omega)]at b2;exact(wA b2).symm
def CycP(x:qc)(n:Nat)(q:Int)(v:List Int):Prop:=
 qM x.Complex.Prime (dm x n) v∧(∀i,i < dm x n→q < lv x n i→nth v i=0)∧(n≠0→∀j,j < dm x (n - 1)→Cg x.Complex.Prime (dot (nth v) (mt x n) (dm x n) j) 0)
theorem lv_rng{x:qc}(h:qv x){n i:Nat}(hn:n < x.Levels.length)(hi:i < dm x n):0≤lv x n i∧lv x n i≤5:=by
 have hd:=zx h hn;unfold lv;exact(h.lv n hn).2 _ (qT (by omega) 0)
theorem near_cyc{x:qc}(h:qv x){n:Nat}(hn:n < x.Levels.length){r q:Int}(hrq:q < r)(v:List Int):NearP x r n q v↔CycP x n q v:=by
 unfold NearP CycP;refine and_congr_right fun _=> and_congr_right fun _=>⟨fun g h0 j hj=> g h0 j hj ?_,fun g h0 j hj _=> g h0 j hj⟩;have:=(lv_rng h (n:=n - 1) (by omega) hj).1;omega
theorem near_far{x:qc}(hs:qB x)(h:qv x){n:Nat}(hn:n < x.Levels.length){r r' q:Int}(hr: -100≤r∧r≤100)(hr': -100≤r'∧r'≤100)(hq: -100≤q∧q≤100)(h1:q < r)(h2:q < r'){N N':List (List Int)}(e1:F184 x r (n:Int) q=some N)(e2:F184 x r' (n:Int) q=some N'):N=N':=by
 have hp0:0 < x.Complex.Prime:=by have:=h.vc.p.range; omega
 obtain⟨A,a1, -,a3⟩:=zA hs h hn hr hq;obtain⟨B,b1, -,b3⟩:=zA hs h hn hr' hq;rw[e1]at a1;rw[e2]at b1;cases a1;cases b1;exact Red.unique hp0 a3 b3 fun v=>((xJ hs h hn hr hq e1 v).trans (near_cyc h hn h1 v)).trans (((xJ hs h hn hr' hq e2 v).trans (near_cyc h hn h2 v)).symm)
structure WideC (x:qe):Prop where
 p:IsP x.Prime
 dl:1≤x.Dims.length∧x.Dims.length≤100
 ml:x.Maps.length+1=x.Dims.length
 dims:∀d∈x.Dims,0≤d∧d≤100
 tab:∀k,k < x.Maps.length→xd x k
theorem WideC.dim{x:qe}(h:WideC x){n:Nat}(hn:n < x.Dims.length):0≤x.Dims.getD n 0∧x.Dims.getD n 0≤100:=h.dims _ (qT hn 0)
theorem dc_lew{x:qe}(h:WideC x)(n:Nat):dc x n≤100:=by
 unfold dc;by_cases hn:n < x.Dims.length
 ·have:=h.dim hn; omega
 ·rw[List.getD_eq_getElem?_getD,List.getElem?_eq_none (by omega)]; simp
theorem dc_atw{x:qe}(h:WideC x){n:Nat}(hn:n < x.Dims.length):x.Dims.getD n 0=(dc x n:Int):=by
 have:=h.dim hn;unfold dc; omega
theorem concat2{a b:List (List Int)}(ha:a.length≤10000)(hb:b.length≤10000):F200 [a,b]=some (a++b):=by
 unfold F200;have h1:forR 0 ((([a,b]:List (List (List Int))).length:Nat):Int) (F200_1_B [a,b]) F200_1_D 0=some (((a.length+b.length:Nat):Int)):=by
  obtain⟨t,g1,g2⟩:=qz (B:=F200_1_B [a,b]) (D:=F200_1_D) (hi:=(([a,b]:List (List (List Int))).length:Int)) 2 rfl (by decide) (fun i s=> s=(((([a,b]:List (List (List Int))).take i).map List.length).sum:Nat)) (fun t=> t=(((a.length+b.length:Nat):Int))) (s:=0) rfl (by
   rintro i s hi rfl;left;unfold F200_1_B
   match i,hi with
   |0,_=> exact⟨_,by rw[show((0:Nat):Int)=((0:Nat):Int) from rfl,qn (l:=[a,b]) (i:=0) (by simp),ob,qk (by simp <;> omega) (by simp <;> omega),ob,if_neg (by simp <;> omega)],by simp⟩
   |1,_=> exact⟨_,by rw[qn (l:=[a,b]) (i:=1) (by simp),ob,qk (by simp <;> omega) (by simp <;> omega),ob,if_neg (by simp <;> omega)],by simp⟩) (by
   rintro s rfl;exact⟨_,rfl,by simp⟩)
  rw[g1,g2]
 have h2:forR 0 ((([a,b]:List (List (List Int))).length:Nat):Int) (F200_2_B [a,b]) F200_2_D []=some (a++b):=by
  obtain⟨t,g1,g2⟩:=qz (B:=F200_2_B [a,b]) (D:=F200_2_D) (hi:=(([a,b]:List (List (List Int))).length:Int)) 2 rfl (by decide) (fun i s=> s=(([a,b]:List (List (List Int))).take i).flatten) (fun t=> t=a++b) (s:=[]) rfl (by
   rintro i s hi rfl;left;unfold F200_2_B
   match i,hi with
   |0,_=> exact⟨_,by rw[qn (l:=[a,b]) (i:=0) (by simp),ob,qH (by simp; omega) (by simp; omega),ob],by simp⟩
   |1,_=> exact⟨_,by rw[qn (l:=[a,b]) (i:=1) (by simp),ob,qH (by simp; omega) (by simp; omega),ob],by simp⟩) (by
   rintro s rfl;exact⟨_,rfl,by simp⟩)
  rw[g1,g2]
 rw[h1,ob,if_pos (by omega),h2]
theorem lin_okof{p:Int}(hp:IsP p){c w:Nat}{m:List (List Int)}(hml:m.length=c)(hm:Rows p w m)(hc:c≤1000)(hw:w≤1000){v:List Int}(hv:qM p c v):LinOK p w v m:=by
 have hvl:=hv.len;exact⟨hp.range,fun y hy=> by
  obtain⟨k,hk,rfl⟩:=wP hy;have:=hv.rng k (by omega)
  rwa[qW hk]at this,by omega,fun l hl=>⟨(hm l hl).len,fun y hy=> by
  have hl':=hm l hl;have hll:=hl'.len;obtain⟨k,hk,rfl⟩:=wP hy;have:=hl'.rng k (by omega)
  rwa[qW hk]at this⟩,by omega,by omega⟩
theorem lin_vec{p:Int}{w:Nat}{m:List (List Int)}{v:List Int}(H:LinOK p w v m):qM p w (lin p w v m):=by
 have hok:=linN_ok H v.length (wD _);refine⟨hok.1,fun j hj=>?_⟩;have hj':j < (lin p w v m).length:=by rw[lin_len H]; exact hj
 rw[qW hj'];exact hok.2 _ (wC hj')
theorem cyc_full{x:qc}(hs:qB x)(h:qv x){n:Nat}(hn:n < x.Levels.length):∃K,F98 x.Complex (n:Int)=some K∧Red x.Complex.Prime (dm x n) K∧∀v,Sp x.Complex.Prime (dm x n) K v↔qM x.Complex.Prime (dm x n) v∧(n≠0→∀j,j < dm x (n - 1)→Cg x.Complex.Prime (dot (nth v) (mt x n) (dm x n) j) 0):=by
 have hp:=h.vc.p;have hp1:1 < x.Complex.Prime:=by have:=hp.range; omega
 have hp0:0 < x.Complex.Prime:=by omega
 have hd:=zx h hn;have hll:=h.ll;have hsl:=hs.l;unfold F98;rw[F99_dm hs h hn,ob];rcases Nat.eq_zero_or_pos n with h0|h0
 ·subst h0
  rw[show((0:Nat):Int)=0 from rfl,F76_0 hs.c.d (by omega) hd.1 (by omega),ob,kernel_none hp (by omega),ob];refine⟨_,rfl,jk hp1 _,fun v=>⟨fun q=>⟨q.ok hp0 (jk hp1 _).ok,fun c=> absurd rfl c⟩,fun q=> units_sp hp1 q.1⟩⟩
 ·obtain⟨k,rfl⟩:∃k,n=k+1:=⟨n - 1,by omega⟩
  obtain⟨h1,h2,h3⟩:=mt_ok h hn;have hd0:=zx h (n:=k) (by omega);obtain⟨m,m1,m2⟩:=F76_at hs h hn;have:=m2 (by omega);subst this;obtain⟨K,k1, -,k3,k4⟩:=kernel_full hp h3 (by omega) (by omega);rw[h2]at k1 k3 k4;rw[m1,ob,k1,ob];exact⟨K,rfl,k3,fun v=>(k4 v).trans ⟨fun q=>⟨q.1,fun _ j hj=> q.2 j hj⟩,fun q=>⟨q.1,fun j hj=> q.2 (by omega) j hj⟩⟩⟩
theorem ju{β:Type}(n:Nat)(h:Nat→β):(coll n fun i=>[h i])=(List.range n).map h:=by
 induction n with
 |zero=> rfl
 |succ n ih=> rw[jW,ih,List.range_succ,yL]; rfl
def tab6(l:Nat)(g:Nat→Nat→Int):List (List Int):=coll l fun n=>[coll 6 fun q=>[g n q]]
theorem tab6_len{l:Nat}{g:Nat→Nat→Int}:(tab6 l g).length=l:=by unfold tab6; rw[ju l fun n=> coll 6 fun q=>[g n q]]; simp
theorem tab6_row{l n:Nat}{g:Nat→Nat→Int}(hn:n < l):getI (tab6 l g) (n:Int)=some ((List.range 6).map (g n)):=by
 have e:tab6 l g=(List.range l).map fun n=> coll 6 fun q=>[g n q]:=by unfold tab6; rw[ju l fun n=> coll 6 fun q=>[g n q]]
 rw[e,qn (by simpa using hn),List.getElem_map,List.getElem_range,ju]
theorem tab6_rows{l:Nat}{g:Nat→Nat→Int}:∀r∈tab6 l g,r.length=6:=fun r hr=> by
 have e:tab6 l g=(List.range l).map fun n=> coll 6 fun q=>[g n q]:=by unfold tab6; rw[ju l fun n=> coll 6 fun q=>[g n q]]
 rw[e]at hr;obtain⟨n, -,rfl⟩:=wJ.1 hr;rw[ju]; simp
theorem table_eq{x:qc}(h:qv x){f:Int→Int→Option Int}{g:Nat→Nat→Int}(hf:∀n q:Nat,n < x.Levels.length→q < 6→f (n:Int) (q:Int)=some (g n q)):F162 x f=some (tab6 x.Levels.length g):=by
 have hl:=h.ll;have hdl:=h.vc.dl;unfold F162;rw[jF (n:=x.Levels.length) (fun(n:Nat)=>[coll 6 fun(q:Nat)=>[g n q]]) (by omega) (fun n=> by simp) (by
  intro n s hn hsl;unfold F162_1_B;have e:forR 0 6 (F162_2_B x s (n:Int) f) (F162_2_D x s (n:Int) f) []=some (coll 6 fun(q:Nat)=>[g n q]):=by
   refine jF (n:=6) _ (by omega) (fun n=> by simp) (fun q s2 hq hs2=>?_) fun i s=> rfl;unfold F162_2_B;rw[hf n q hn hq,ob,qH (by simp; omega) (by simp; omega),ob]
  rw[e,ob,qH (by simp; omega) (by simp; omega),ob]) (by intro i s; rfl),ob]
 rfl
noncomputable def held(x:qc)(n:Nat)(q:Int):Int:=(F331 x (n:Int) q).getD 0
theorem held_eq{x:qc}(hs:qB x)(h:qv x){n:Nat}(hn:n < x.Levels.length){q:Int}(hq: -1≤q∧q≤5):∃Z B W,F184 x 6 (n:Int) q=some Z∧F186 x.Complex (n:Int)=some B∧ze x.Complex.Prime (dm x n) (Z++B) W∧F331 x (n:Int) q=some (W.length:Int)∧F183 q x.Complex x (n:Int)=some (W.length:Int)∧W.length≤8∧held x n q=(W.length:Int):=by
 have hp:=h.vc.p;have hd:=zx h hn;have hll:=h.ll;obtain⟨Z,z1, -,z3⟩:=zA hs h hn (r:=6) (q:=q) (by omega) (by omega);obtain⟨Z',y1,y2,y3⟩:=zA hs h hn (r:=13) (q:=q) (by omega) (by omega);have e:Z=Z':=near_far hs h hn (r:=6) (r':=13) (by omega) (by omega) (by omega) (by omega) (by omega) z1 y1;subst e;obtain⟨B,b1,b2,b3, -⟩:=bounds_full hs.c h.vc (n:=n) (by omega);have hZl:=qL z3;have hBl:=qL b3;have hdd:dc x.Complex n=dm x n:=rfl;have hr:Rows x.Complex.Prime (dm x n) (Z++B):=fun r hr=> by
  rcases wI.1 hr with q|q
  ·exact z3.ok r q
  ·exact b3.ok r q
 obtain⟨W,w1,w2,w3⟩:=qJ hp hr (by omega) (by rw[wM]; omega);have hWl:=qL w3.red;have e1:F331 x (n:Int) q=some (W.length:Int):=by
  unfold F331;rw[y2,ob,qH (by simp; omega) (by simp; omega),ob,vH,b1,ob,qH (by omega) (by omega),ob,w1,ob]
 refine⟨Z,B,W,z1,b2,w3,e1,?_,by omega,by unfold held; rw[e1]; rfl⟩;unfold F183;rw[z1,ob,b2,ob,concat2 (by omega) (by omega),ob,w2,ob]
noncomputable def limN(x:qc)(n q:Nat):Int:=held x n (q:Int) - held x n ((q:Int) - 1)
theorem lim_eq{x:qc}(hs:qB x)(h:qv x){n q:Nat}(hn:n < x.Levels.length)(hq:q < 6):F161 x (n:Int) (q:Int)=some (limN x n q):=by
 obtain⟨Z,B,W, -, -, -, -,w1,w2,w3⟩:=held_eq hs h hn (q:=(q:Int)) (by omega);obtain⟨Z',B',W', -, -, -, -,y1,y2,y3⟩:=held_eq hs h hn (q:=(q:Int) - 1) (by omega);unfold F161 limN;rw[w1,ob,qk (by omega) (by omega),ob,y1,ob,qk (by omega) (by omega),w3,y3]
theorem wide_rows{x:qe}(h:WideC x){k:Nat}(hk:k+1 < x.Dims.length):(x.Maps.getD k []).length=dc x (k+1)∧Rows x.Prime (dc x k) (x.Maps.getD k []):=by
 have hml:=h.ml;have ht:=h.tab k (by omega);have hd:=h.dim hk;exact⟨by have:=ht.1; unfold dc; omega,fun r hr=>(ht.2 r hr).vec⟩
structure zD (s:ql):Prop where
 at0:0≤s.at_
 len:s.code.length≤1099511627776
 byte:∀b∈s.code,0≤b.val∧b.val≤255
theorem mask_ok(x:Int):0≤Go.IntKind.wrap .u64 (BitVec.ofInt (Go.IntKind.bits .u64) x &&& BitVec.ofInt (Go.IntKind.bits .u64) 16777215).toNat∧Go.IntKind.wrap .u64 (BitVec.ofInt (Go.IntKind.bits .u64) x &&& BitVec.ofInt (Go.IntKind.bits .u64) 16777215).toNat≤16777215:=by
 have h:(BitVec.ofInt (Go.IntKind.bits .u64) x &&& BitVec.ofInt (Go.IntKind.bits .u64) 16777215).toNat≤16777215:=by
  rw[BitVec.toNat_and];exact vP Nat.and_le_right (by decide)
 have e:∀m:Nat,m≤16777215→Go.IntKind.wrap .u64 (m:Int)=(m:Int):=fun m hm=> by
  unfold Go.IntKind.wrap;simp[Go.IntKind.bits,Go.IntKind.signed];omega
 rw[e _ h];omega
theorem zz{s:ql}(hs:zD s)(n:Int):∃v s',F416 s n=some ⟨v,s'⟩∧zD s'∧0≤v∧(1≤n→v < n)∧(n < 1→v=0):=by
 have h1:=hs.at0;have h2:=hs.len;unfold F416;by_cases c:n < 1
 ·rw[if_pos c]; exact⟨_,_,rfl,hs,by omega,fun q=> by omega,fun _=> rfl⟩
 rw[if_neg c];obtain⟨m1,m2⟩:=mask_ok (Int.fdiv (Go.IntKind.wrap .u64 ((Go.IntKind.wrap .u64 (s.hash*6364136223846793005))+1442695040888963407)) (2^min 33 (Go.IntKind.bits .u64)));generalize Go.IntKind.wrap .u64 (BitVec.ofInt (Go.IntKind.bits .u64) (Int.fdiv (Go.IntKind.wrap .u64 ((Go.IntKind.wrap .u64 (s.hash*6364136223846793005))+1442695040888963407)) (2^min 33 (Go.IntKind.bits .u64)))&&& BitVec.ofInt (Go.IntKind.bits .u64) 16777215).toNat=X at m1 m2 ⊢;rw[qk (by omega) (by omega),ob];have md:∀Y:Int,0≤Y→remI Y n=some (Y.tmod n)∧0≤Y.tmod n∧Y.tmod n < n:=fun Y hY=>⟨xH (by omega),Int.tmod_nonneg _ hY,Int.tmod_lt_of_pos _ (by omega)⟩;by_cases c2:s.at_ < (s.code.length:Int)
 ·obtain⟨i,hi⟩:∃i:Nat,s.at_=(i:Int):=⟨s.at_.toNat,by omega⟩
  have hil:i < s.code.length:=by omega
  obtain⟨b1,b2⟩:=hs.byte _ (wC hil);obtain⟨r1,r2,r3⟩:=md (X+s.code[i].val) (by omega);rw[if_pos c2,hi,qn hil,ob,qk (by omega) (by omega),ob,qk (by omega) (by omega),ob,qk (by omega) (by omega),ob,r1,ob];exact⟨_,_,rfl,⟨by simp only; omega,h2,hs.byte⟩,r2,fun _=> r3,fun q=> absurd q c⟩
 ·obtain⟨r1,r2,r3⟩:=md X m1
  rw[if_neg c2,r1,ob];exact⟨_,_,rfl,⟨h1,h2,hs.byte⟩,r2,fun _=> r3,fun q=> absurd q c⟩
theorem xu{s:ql}(hs:zD s){l:List Int}(hl:l≠ [])(hb:l.length≤1000):∃v s',F412 s l=some ⟨v,s'⟩∧zD s'∧v∈l:=by
 have h0:0 < l.length:=List.length_pos_iff.2 hl;obtain⟨v,s',e,h1,h2,h3, -⟩:=zz hs (l.length:Int);have h4:=h3 (by omega);obtain⟨i,hi⟩:∃i:Nat,v=(i:Int):=⟨v.toNat,by omega⟩;subst hi;have hil:i < l.length:=by omega
 unfold F412;rw[e,ob,qn hil,ob];exact⟨_,_,rfl,h1,wC hil⟩
theorem near_ok{s:ql}(hs:zD s){m:Int}(h0: -1000≤m)(h1:m≤1000000):∃v s',F411 s m=some ⟨v,s'⟩∧zD s'∧ -4611686018427387904≤v∧v≤1099511627776:=by
 obtain⟨v,s',e,k1,k2,k3, -⟩:=zz hs 14;unfold F411;rw[e,ob];simp only;by_cases c:v=0
 ·obtain⟨u,t,e2,k4,k5⟩:=xu k1 (l:=[(-1),m+1,1099511627776,(-4611686018427387904)]) (by simp) (by simp)
  rw[if_pos c,qk (by omega) (by omega),ob,e2,ob];refine⟨u,t,rfl,k4,?_⟩;simp only[vB,yG,or_false]at k5;rcases k5 with rfl|rfl|rfl|rfl <;> omega
 ·obtain⟨u,t,e2,k4,k5,k6,k7⟩:=zz k1 (m+1)
  rw[if_neg c,qk (by omega) (by omega),ob,e2,ob];refine⟨u,t,rfl,k4,by omega,?_⟩;by_cases q:1≤m+1
  ·have:=k6 q; omega
  ·have:=k7 (by omega); omega
theorem vector_ok{s:ql}(hs:zD s){p:Int}(hp:1≤p){n:Nat}(hn:n≤1000):∃v s',F424 s p (n:Int)=some ⟨v,s'⟩∧zD s'∧v.length=n∧∀y∈v,0≤y∧y < p:=by
 obtain⟨c,s1,e,k1,k2,k3, -⟩:=zz hs 3;unfold F424;rw[e,ob];obtain⟨t,g1,g2⟩:=qX (S:=F424_1_S p ⟨c,s1⟩) (fun s=>(s.2.2.2.2).toNat) (fun s=>∃ (q:ql) (o:List Int) (m:Nat),s=(q.code,q.at_,q.hash,o,(m:Int))∧zD q∧o.length+m=n∧∀y∈o,0≤y∧y < p)
  (fun t=>∃ (q:ql) (o:List Int),t=(q.code,q.at_,q.hash,o)∧zD q∧o.length=n∧∀y∈o,0≤y∧y < p) (s:=(s1.code,s1.at_,s1.hash,[],(n:Int))) ⟨s1,[],n,rfl,k1,by simp,fun y hy=> nomatch hy⟩ (by
  rintro _ ⟨q,o,m,rfl,h1,h2,h3⟩;unfold F424_1_S;simp only;by_cases cm:0 < (m:Int)
  ·left
   rw[if_pos cm];have ext:∀y,0≤y→y < p→∀z∈o++[y],0≤z∧z < p:=fun y y0 y1 z hz=> by
    rcases wI.1 hz with hz|hz
    ·exact h3 z hz
    ·rw[List.mem_singleton.1 hz]; exact⟨y0,y1⟩
   by_cases cc:c=0
   ·obtain⟨x,q2,e2,j1,j2,j3, -⟩:=zz h1 p
    rw[if_pos cc,e2,ob,qH (by simp; omega) (by simp; omega),ob,qk (by omega) (by omega),ob];exact⟨_,rfl,⟨q2,o++[x],m - 1,by simp only[wG,true_and]; omega,j1,by simp; omega,ext x j2 (j3 hp)⟩,by simp only; omega⟩
   ·obtain⟨x0,q1,e1,i1,i2,i3, -⟩:=zz h1 2
    rw[if_neg cc,e1,ob];simp only;by_cases c0:x0=0
    ·obtain⟨x,q2,e2,j1,j2,j3, -⟩:=zz i1 p
     rw[if_pos c0,e2,ob,qH (by simp; omega) (by simp; omega),ob,qk (by omega) (by omega),ob];exact⟨_,rfl,⟨q2,o++[x],m - 1,by simp only[wG,true_and]; omega,j1,by simp; omega,ext x j2 (j3 hp)⟩,by simp only; omega⟩
    ·rw[if_neg c0,qH (by simp; omega) (by simp; omega),ob,qk (by omega) (by omega),ob]
     exact⟨_,rfl,⟨q1,o++[0],m - 1,by simp only[wG,true_and]; omega,i1,by simp; omega,ext 0 (by omega) (by omega)⟩,by simp only; omega⟩
  ·right
   rw[if_neg cm];exact⟨_,rfl,⟨q,o,rfl,h1,by omega,h3⟩⟩)
 obtain⟨q,o,rfl,h1,h2,h3⟩:=g2;rw[g1,ob];exact⟨o,q,rfl,h1,h2,h3⟩
theorem from_ok{code:List U8}(hl:code.length≤1099511627776)(hb:∀b∈code,0≤b.val∧b.val≤255):∃s,F405 code=some s∧zD s:=by
 unfold F405;obtain⟨t,g1, -⟩:=qX (S:=F405_S code) (fun s=>(4096 - s.1).toNat) (fun s=> 0≤s.1) (fun _=> True) (s:=(0,Go.IntKind.wrap .u64 (12731+Go.IntKind.wrap .u64 (code.length:Int)))) (vW 0) (by
  rintro⟨i,h⟩ h0;simp only at h0;unfold F405_S;simp only;by_cases c1:i < (code.length:Int)
  ·rw[if_pos c1]
   by_cases c2:i < 4096
   ·left
    obtain⟨k,rfl⟩:∃k:Nat,i=(k:Int):=⟨i.toNat,by omega⟩;rw[if_pos c2,qn (by omega),ob,qk (by omega) (by omega),ob];exact⟨_,rfl,by simp only; omega,by simp only; omega⟩
   ·right; rw[if_neg c2]; exact⟨_,rfl,trivial⟩
  ·right; rw[if_neg c1]; exact⟨_,rfl,trivial⟩)
 rw[g1,ob];exact⟨_,rfl,⟨by simp only; omega,hl,hb⟩⟩
theorem getD_mapr{β:Type}{n i:Nat}{f:Nat→β}{d:β}(h:i < n):((List.range n).map f).getD i d=f i:=by
 rw[List.getD_eq_getElem?_getD,List.getElem?_map,List.getElem?_range h]; rfl
def sgk(k:Nat):Int:=if k% 2=0 then 1 else -1
theorem take_one{α:Type}{l:List α}{n:Nat}(d:α)(h:n < l.length):l.take n++[l.getD n d]=l.take (n+1):=by
 rw[List.getD_eq_getElem?_getD,List.getElem?_eq_getElem h];exact wR h
theorem eq_loop'{n:Nat}{B:Int→Unit→Option (Unit⊕(Unit⊕Bool))}{D:Int→Unit→Option (Unit⊕Bool)}(hn:n≤1048576)(hB:∀ (i:Nat),i < n→B i ()=some (.inl ()))(hD:∀i,D i ()=some (.inl ())):forR 0 (n:Int) B D ()=some (.inl ()):=by
 obtain⟨t,g1,g2⟩:=qz (B:=B) (D:=D) n rfl (by omega) (fun _ _=> True) (fun t=> t= .inl ()) (s:=()) trivial (fun i s hi _=> .inl ⟨(),hB i hi,trivial⟩) (fun s _=>⟨_,hD _,rfl⟩);rw[g1,g2]
theorem F156_same{l:List Int}(h:l.length≤1000):F156 l l=some true:=by
 unfold F156;rw[if_pos rfl,eq_loop' (by omega) (fun i hi=> by
  unfold F156_1_B;rw[qp hi 0,ob,ob,if_pos rfl]) fun i=> rfl,ob]
theorem F150_eq{l:List Int}(h:l.length≤1000)(hb:∀y∈l, -1000≤y∧y≤1000):F150 l=some (sumI (nth l) l.length):=by
 unfold F150;have key:∀n,n≤l.length→ -1000*(n:Int)≤sumI (nth l) n∧sumI (nth l) n≤1000*n:=fun n=> by
  induction n with
  |zero=> intro _; simp[sumI]
  |succ n ih=>
   intro hn;have:=ih (by omega);have hy:=hb _ (qT (show n < l.length by omega) 0);simp only[sumI];unfold nth at this ⊢;omega
 obtain⟨t,g1,g2⟩:=qz (B:=F150_1_B l) (D:=F150_1_D l) l.length rfl (by omega) (fun n s=> s=sumI (nth l) n) (fun t=> t=sumI (nth l) l.length) (s:=0) rfl (by
  rintro n s hn rfl;left;have a:=key n (by omega);have hy:=hb _ (qT hn 0);refine⟨sumI (nth l) (n+1),?_,rfl⟩;unfold F150_1_B;rw[qp hn 0,ob,qk (by omega) (by omega),ob];rfl) fun s hs=>⟨s,rfl,hs⟩
 have g1':forR 0 (l.length:Int) (F150_1_B l) (F150_1_D l) 0=some t:=g1;rw[g1',g2,ob]
theorem wide_small{x:qe}(h:WideC x):ji x:=by
 have hml:=h.ml;have hdl:=h.dl;refine⟨by omega,by omega,fun m hm=>?_⟩;obtain⟨k,hk,rfl⟩:=wP hm;obtain⟨r1,r2⟩:=wide_rows h (k:=k) (by omega);rw[mapsD hk]at r1 r2;have a:=dc_lew h (k+1);have b:=dc_lew h k;exact⟨by omega,fun r hr=> by have:=(r2 r hr).len; omega⟩
theorem vec_of{p:Int}{w:Nat}{v:List Int}(hl:v.length=w)(h:∀y∈v,0≤y∧y < p):qM p w v:=⟨hl,fun j hj=> by
 rw[qW (by omega)]; exact h _ (wC (by omega))⟩
theorem jT{α:Type}{l m:List α}{k:Nat}{d:α}(h:k < l.length):(l++m).getD k d=l.getD k d:=by
 rw[List.getD_eq_getElem?_getD,List.getElem?_append_left h,List.getD_eq_getElem?_getD]
theorem getD_app_one{α:Type}{l:List α}{y d:α}:(l++[y]).getD l.length d=y:=by
 rw[List.getD_eq_getElem?_getD,List.getElem?_append_right (wD _),uF]; rfl
theorem wide_snoc{x:qe}(h:WideC x){d:Nat}{rows:List (List Int)}(hd:d≤8)(hr:rows.length=d)(hR:Rows x.Prime (dc x (x.Dims.length - 1)) rows)(hl:x.Dims.length≤99):WideC ⟨x.Prime,x.Dims++[(d:Int)],x.Maps++[rows]⟩:=by
 have hml:=h.ml;have hdl:=h.dl;refine⟨h.p,by simp; omega,by simp; omega,fun e he=>?_,fun k hk=>?_⟩
 ·rcases wI.1 he with q|q
  ·exact h.dims e q
  ·rw[List.mem_singleton.1 q]; omega
 ·simp only[wM,List.length_singleton]at hk
  unfold xd;simp only;by_cases c:k < x.Maps.length
  ·have:=h.tab k c
   unfold xd at this;rw[jT (by omega),jT (by omega),jT c];exact this
  ·have hk':k=x.Maps.length:=by omega
   have e1:(x.Dims++[(d:Int)]).getD (k+1) 0=(d:Int):=by rw[show k+1=x.Dims.length by omega,getD_app_one]
   have e2:(x.Dims++[(d:Int)]).getD k 0=(dc x (x.Dims.length - 1):Int):=by
    rw[jT (by omega),show k=x.Dims.length - 1 by omega];exact dc_atw h (by omega)
   rw[e1,e2,hk',getD_app_one];refine⟨by omega,fun r hr'=>?_⟩;have v:=hR r hr';refine⟨by rw[v.len],fun y hy=>?_⟩;obtain⟨j,hj,rfl⟩:=wP hy;have:=v.rng j (by have:=v.len; omega)
   rwa[qW hj]at this
structure DrawnC (x:qe):Prop where
 w:WideC x
 l:x.Dims.length≤6
 d:∀e∈x.Dims,0≤e∧e≤8
theorem cyc_one{x:qe}(hx:ji x)(h:WideC x){n:Nat}(hn:n < x.Dims.length):∃K,F98 x (n:Int)=some K∧Red x.Prime (dc x n) K:=by
 have hp1:1 < x.Prime:=by have:=h.p.range; omega
 have hd:=h.dim hn;have hml:=h.ml;have hxd:=hx.d;unfold F98;rw[F99_at hx.d hn,ob];rcases Nat.eq_zero_or_pos n with h0|h0
 ·subst h0
  have hdn:x.Dims.getD 0 0=(dc x 0:Int):=dc_atw h hn;rw[show((0:Nat):Int)=0 from rfl,F76_0 hx.d hn hdn (by omega),ob,hdn,kernel_none h.p (by omega),ob];exact⟨_,rfl,jk hp1 _⟩
 ·obtain⟨k,rfl⟩:∃k,n=k+1:=⟨n - 1,by omega⟩
  have hk:k < x.Maps.length:=by omega
  have ht:=h.tab k hk;have hdk:=h.dim (show k < x.Dims.length by omega);have hr:Rows x.Prime (dc x k) (x.Maps.getD k []):=fun r hr=>(ht.2 r hr).vec;have hlen:=ht.1;have hdc:dc x (k+1)=(x.Maps.getD k []).length:=by unfold dc; omega
  have hw:=dc_lew h k;obtain⟨K,k1, -,k3, -⟩:=kernel_full h.p hr (by omega) (by omega);rw[F76_eq hx.d hn hk,ob,←hlen,k1,ob,hdc];exact⟨_,rfl,k3⟩
theorem drawOf_ok{s:ql}(hs:zD s){p:Int}(hp:IsP p){D:List Int}(hl:1≤D.length∧D.length≤6)(hD:∀d∈D,0≤d∧d≤8):∃x s',F417 s p D=some ⟨x,s'⟩∧zD s'∧DrawnC x∧x.Prime=p∧x.Dims=D:=by
 have hpr:=hp.range;have d0:=hD _ (qT (show 0 < D.length by omega) 0);unfold F417;rw[show(0:Int)=((0:Nat):Int) from rfl,qp (show 0 < D.length by omega) 0,ob];obtain⟨t,g1,g2⟩:=forR_from (B:=F417_1_B p D) (D:=F417_1_D) (lo:=1) (hi:=(D.length:Int)) 1 D.length rfl rfl hl.1 (by omega) (fun n s=> 1≤n∧zD s.1∧WideC s.2∧s.2.Prime=p∧s.2.Dims=D.take n) (fun t=> zD t.1∧WideC t.2∧t.2.Prime=p∧t.2.Dims=D) (s:=(s,⟨p,[D.getD 0 0],[]⟩)) ⟨wD _,hs,⟨hp,by simp,by simp,fun e he=> by rw[List.mem_singleton.1 he]; omega,fun k hk=> absurd hk (by simp)⟩,rfl,by
   obtain⟨a,r,rfl⟩:∃a r,D=a::r:=by cases D with|nil=> simp at hl|cons a r=> exact⟨a,r,rfl⟩
   rfl⟩ (by
  rintro n ⟨q,x⟩ hn ⟨h1,h2,h3,h4,h5⟩;left;simp only at h2 h3 h4 h5;obtain⟨m,rfl⟩:∃m,n=m+1:=⟨n - 1,by omega⟩;have hxl:x.Dims.length=m+1:=by rw[h5,yH]; omega
  obtain⟨K,k1,k3⟩:=cyc_one (wide_small h3) h3 (n:=m) (by omega);rw[h4]at k3;have hKl:=qL k3;have hml:=h3.ml;have hdm:D.getD m 0=(dc x m:Int):=by
   rw[←dc_atw h3 (show m < x.Dims.length by omega),h5,List.getD_eq_getElem?_getD,List.getD_eq_getElem?_getD,List.getElem?_take_of_lt (by omega)]
  have hd8:=hD _ (qT (show m < D.length by omega) 0);have hdn:=hD _ (qT hn 0);obtain⟨d,hd⟩:∃d:Nat,D.getD (m+1) 0=(d:Int):=⟨(D.getD (m+1) 0).toNat,by omega⟩;have L:∃t,qY (F417_2_S p D K ((m+1:Nat):Int)) ((q,[]),0)=some t∧(zD t.1∧t.2.length=d∧Rows p (dc x m) t.2):=by
   refine qX (S:=F417_2_S p D K ((m+1:Nat):Int)) (fun s=>((d:Int) - s.2).toNat) (fun s=>∃i:Nat,i≤d∧s.2=(i:Int)∧zD s.1.1∧s.1.2.length=i∧Rows p (dc x m) s.1.2) _ ⟨0,by omega,rfl,h2,rfl,fun r hr=> nomatch hr⟩ ?_;rintro⟨⟨u,R⟩,i'⟩ ⟨i,p1,p2,p3,p4,p5⟩;simp only at p2 p3 p4 p5;subst p2;unfold F417_2_S;simp only;rw[qp hn 0,ob,hd];by_cases c:i < d
   ·left
    obtain⟨v,u',e1,f1,f2,f3⟩:=vector_ok p3 (show 1≤p by omega) (n:=K.length) (by omega);have hv:qM p K.length v:=vec_of f2 f3;have H:LinOK p (dc x m) v K:=lin_okof hp rfl k3.ok (by omega) (by omega) hv;rw[if_pos (by omega),e1,ob,qk (by omega) (by omega),ob,show((m+1:Nat):Int) - 1=(m:Int) by omega,qp (show m < D.length by omega) 0,ob,hdm,F80_eq H rfl,ob,qH (by simp only[List.length_singleton]; omega) (by simp only[List.length_singleton]; omega),ob,qk (by omega) (by omega),ob];refine⟨_,rfl,⟨i+1,by omega,rfl,f1,by simp[p4],fun r hr=>?_⟩,by simp only; omega⟩;rcases wI.1 hr with z|z
    ·exact p5 r z
    ·rw[List.mem_singleton.1 z]; exact lin_vec H
   ·right
    rw[if_neg (by omega)];exact⟨_,rfl,p3,by simp only; omega,p5⟩
  obtain⟨⟨u,R⟩,l1,l2,l3,l4⟩:=L;simp only at l2 l3 l4;refine⟨(u,⟨x.Prime,x.Dims++[(d:Int)],x.Maps++[R]⟩),?_,by omega,l2,wide_snoc h3 (by omega) l3 (by rw[hxl,h4]; exact l4) (by omega),h4,?_⟩
  ·unfold F417_1_B
   simp only;rw[qk (by omega) (by omega),ob,show((m+1:Nat):Int) - 1=(m:Int) by omega,k1,ob,l1,ob,qp hn 0,ob,hd,qH (by simp only[List.length_singleton]; omega) (by simp only[List.length_singleton]; omega),ob,qH (by simp only[List.length_singleton]; omega) (by simp only[List.length_singleton]; omega),ob]
  ·simp only
   rw[h5,←hd];exact take_one 0 hn) (by
  rintro⟨q,x⟩ ⟨h1,h2,h3,h4,h5⟩;exact⟨_,rfl,h2,h3,h4,by simp only at h5 ⊢; rw[h5,wQ (by omega)]⟩)
 rw[g1,ob];obtain⟨f1,f2,f3,f4⟩:=g2;exact⟨t.2,t.1,rfl,f1,⟨f2,by rw[f4]; exact hl.2,by rw[f4]; exact hD⟩,f3,f4⟩
theorem draw_ok{s:ql}(hs:zD s):∃x s',F415 s=some ⟨x,s'⟩∧zD s'∧DrawnC x:=by
 unfold F415 F423;obtain⟨p,s1,e1,k1,k2⟩:=xu hs (l:=[2,2,3,3,5,7]) (by simp) (by simp);have hp:IsP p:=by
  simp only[vB,yG,or_false]at k2;unfold IsP; omega
 obtain⟨a,s2,e2,k3,k4,k5, -⟩:=zz k1 6;have k5':=k5 (by omega);obtain⟨b,s3,e3,k6,k7⟩:=xu k3 (l:=[0,1,2,2,3,a]) (by simp) (by simp);have hb:0≤b∧b≤5:=by
  simp only[vB,yG,or_false]at k7;omega
 rw[e1,ob,ob];simp only;rw[e2,ob];simp only;rw[e3,ob];simp only;rw[qk (by omega) (by omega),ob];obtain⟨N,hN⟩:∃N:Nat,1+b=(N:Int):=⟨(1+b).toNat,by omega⟩;rw[hN];have L:∃t,qY (F415_1_S ⟨p,s1⟩) (s3.code,s3.at_,s3.hash,[],(N:Int))=some t∧(∃ (q:ql) (o:List Int),t=(q.code,q.at_,q.hash,o)∧zD q∧o.length=N∧∀d∈o,0≤d∧d≤8):=by
  refine qX (S:=F415_1_S ⟨p,s1⟩) (fun s=>(s.2.2.2.2).toNat) (fun s=>∃ (q:ql) (o:List Int) (m:Nat),s=(q.code,q.at_,q.hash,o,(m:Int))∧zD q∧o.length+m=N∧∀d∈o,0≤d∧d≤8) _ ⟨s3,[],N,rfl,k6,by simp,fun y hy=> nomatch hy⟩ ?_;rintro _ ⟨q,o,m,rfl,h1,h2,h3⟩;unfold F415_1_S;simp only;by_cases cm:0 < (m:Int)
  ·left
   obtain⟨c,q1,f1,f2,f3,f4, -⟩:=zz h1 9;have f4':=f4 (by omega);obtain⟨y,q2,i1,i2,i3⟩:=xu f2 (l:=[0,1,1,2,2,3,4,c]) (by simp) (by simp);have hy:0≤y∧y≤8:=by
    simp only[vB,yG,or_false]at i3;omega
   rw[if_pos cm,f1,ob];simp only;rw[i1,ob,qH (by simp; omega) (by simp; omega),ob,qk (by omega) (by omega),ob];refine⟨_,rfl,⟨q2,o++[y],m - 1,by simp only[wG,true_and]; omega,i2,by simp; omega,fun z hz=>?_⟩,by simp only; omega⟩;rcases wI.1 hz with hz|hz
   ·exact h3 z hz
   ·rw[List.mem_singleton.1 hz]; exact hy
  ·right
   rw[if_neg cm];exact⟨_,rfl,q,o,rfl,h1,by omega,h3⟩
 obtain⟨_,g1,q,o,rfl,h1,h2,h3⟩:=L;rw[g1,ob];simp only;obtain⟨x,s',e4,j1,j2, -⟩:=drawOf_ok h1 hp (D:=o) (by omega) h3;have e4':F417 ⟨q.code,q.at_,q.hash⟩ p o=some ⟨x,s'⟩:=e4;rw[e4',ob];exact⟨x,s',rfl,j1,j2⟩
theorem shp_small{s u:T3s}(h:Shp s u)(hu:SmallT u):SmallT s:=by
 refine⟨by rw[h.l]; exact hu.m,fun m hm=>?_⟩;obtain⟨k,hk,rfl⟩:=wP hm;have hk':k < u.length:=by rw[←h.l]; exact hk
 have a:=hu.r _ (qT hk' []);have e:s.getD k []=s[k]:=by simp[hk]
 have t:=h.t k hk';rw[e]at t;refine⟨by omega,fun r hr=>?_⟩;obtain⟨i,hi,rfl⟩:=wP hr;have hi':i < (u.getD k []).length:=by omega
 have b:=a.2 _ (qT hi' []);have e2:(s[k]).getD i []=(s[k])[i]:=by simp[hi]
 have r2:=h.r k hk' i hi';rw[e,e2]at r2;omega
theorem bad_loop2{p:Int}(hp:2≤p∧p≤7){u:T3s}(hu:SmallT u){k:Nat}(hk:k < u.length){q:ql}{ms:T3s}(hq:zD q)(hs:Shp ms u):∃t,qY (F421_2_S p (k:Int)) ((q,ms),0)=some t∧zD t.1∧Shp t.2 u:=by
 have ha:=hu.r _ (qT hk []);refine qX (S:=F421_2_S p (k:Int)) (fun s=>(((u.getD k []).length:Int) - s.2).toNat) (fun s=>∃i:Nat,i≤(u.getD k []).length∧s.2=(i:Int)∧zD s.1.1∧Shp s.1.2 u) _ ⟨0,by omega,rfl,hq,hs⟩ ?_;rintro⟨⟨q,ms⟩,i'⟩ ⟨i,p1,p2,p3,p4⟩;simp only at p2 p3 p4;subst p2;have hk':k < ms.length:=by rw[p4.l]; exact hk
 have ht:=p4.t k hk;unfold F421_2_S;simp only;rw[qp hk' [],ob];by_cases c:i < (u.getD k []).length
 ·left
  have hi:i < (ms.getD k []).length:=by omega
  have hr:=p4.r k hk i c;have hb:=ha.2 _ (qT c []);rw[if_pos (by omega),qp hi [],ob];by_cases c2:0 < ((ms.getD k []).getD i []).length
  ·obtain⟨j,q1,e1,k1,k2,k3, -⟩:=zz p3 (((ms.getD k []).getD i []).length:Int)
   have k3':=k3 (by omega);obtain⟨j',rfl⟩:∃j':Nat,j=(j':Int):=⟨j.toNat,by omega⟩;obtain⟨v,q2,e2,i1, -⟩:=xu k1 (l:=[1,p - 1,p]) (by simp) (by simp);have hj:j' < ((ms.getD k []).getD i []).length:=by omega
   rw[if_pos (by omega),e1,ob,qk (by omega) (by omega),ob];simp only;rw[e2,ob];simp only;rw[zi hj,ob,zi hi,ob,zi hk',ob,qk (by omega) (by omega),ob];refine⟨_,rfl,⟨i+1,by omega,rfl,i1,?_⟩,by simp only; omega⟩;exact(put3_shp (show InT ms k i j' from ⟨hk',hi,hj⟩) v).trans p4
  ·rw[if_neg (by omega),qk (by omega) (by omega),ob]
   exact⟨_,rfl,⟨i+1,by omega,rfl,p3,p4⟩,by simp only; omega⟩
 ·right
  rw[if_neg (by omega)];exact⟨_,rfl,p3,p4⟩
theorem bad_loop1{p:Int}(hp:2≤p∧p≤7){u:T3s}(hu:SmallT u){q:ql}(hq:zD q):∃t,qY (F421_1_S p) ((q,u),0)=some t∧zD t.1∧Shp t.2 u:=by
 have hm:=hu.m;refine qX (S:=F421_1_S p) (fun s=>((u.length:Int) - s.2).toNat) (fun s=>∃i:Nat,i≤u.length∧s.2=(i:Int)∧zD s.1.1∧Shp s.1.2 u) _ ⟨0,by omega,rfl,hq,.refl _⟩ ?_;rintro⟨⟨q,ms⟩,i'⟩ ⟨i,p1,p2,p3,p4⟩;simp only at p2 p3 p4;subst p2;have hl:=p4.l;unfold F421_1_S;simp only;by_cases c:i < u.length
 ·left
  obtain⟨t,g1,g2,g3⟩:=bad_loop2 hp hu c p3 p4;rw[if_pos (by omega),g1,ob,qk (by omega) (by omega),ob];exact⟨_,rfl,⟨i+1,by omega,rfl,g2,g3⟩,by simp only; omega⟩
 ·right
  rw[if_neg (by omega)];exact⟨_,rfl,p3,p4⟩
structure LooseC (x:qe):Prop where
 s:ji x
 l:1≤x.Dims.length∧x.Dims.length≤7
theorem bad_ok{s:ql}(hs:zD s){x:qe}(h:DrawnC x):∃y s',F421 s x=some ⟨y,s'⟩∧zD s'∧LooseC y:=by
 have hp:=h.w.p.range;have hS:=wide_small h.w;have hdl:=h.w.dl;have hl:=h.l;obtain⟨k,s1,e1,k1,k2,k3, -⟩:=zz hs 40;unfold F421;rw[e1,ob];simp only;by_cases c0:k=0
 ·obtain⟨v,s2,e2,i1, -⟩:=xu k1 (l:=[0,4,11]) (by simp) (by simp)
  rw[if_pos c0,e2,ob];exact⟨_,_,rfl,i1,⟨hS.d,hS.m,hS.r⟩,hdl.1,by simp only; omega⟩
 rw[if_neg c0];by_cases c1:k=1
 ·obtain⟨i,s2,e2,i1,i2,i3, -⟩:=zz k1 (x.Dims.length:Int)
  have i3':=i3 (by omega);obtain⟨i',rfl⟩:∃i':Nat,i=(i':Int):=⟨i.toNat,by omega⟩;obtain⟨v,s3,e3,j1, -⟩:=xu i1 (l:=[(-1),9,1]) (by simp) (by simp);rw[if_pos c1,F94_eq hS.d,ob,e2,ob];simp only;rw[e3,ob];simp only;rw[zi (by omega),ob];exact⟨_,_,rfl,j1,⟨by simp only[vZ]; exact hS.d,hS.m,hS.r⟩,by simp only[vZ]; omega⟩
 rw[if_neg c1];by_cases c2:k=2
 ·rw[if_pos c2,F94_eq hS.d,ob,qH (by simp only[List.length_singleton]; omega) (by simp only[List.length_singleton]; omega),ob]
  exact⟨_,_,rfl,k1,⟨by simp only[wM,List.length_singleton]; omega,hS.m,hS.r⟩,by simp only[wM,List.length_singleton]; omega⟩
 rw[if_neg c2];by_cases c3:k=3
 ·obtain⟨t,g1,g2,g3⟩:=bad_loop1 hp (u:=x.Maps) ⟨hS.m,hS.r⟩ k1
  rw[if_pos c3,F55_eq hS,ob,g1,ob];have hT:=shp_small g3 ⟨hS.m,hS.r⟩;exact⟨_,_,rfl,g2,⟨hS.d,hT.m,hT.r⟩,hdl.1,by simp only; omega⟩
 rw[if_neg c3];exact⟨_,_,rfl,k1,hS,hdl.1,by omega⟩
structure CodeOK (code:List U8):Prop where
 l:code.length≤1099511627776
 b:∀b∈code,0≤b.val∧b.val≤255
noncomputable def zN(x:qc)(r:Int)(n:Nat)(q:Int):Int:=(((F184 x r (n:Int) q).getD []).length:Int)
structure NearL (x:qc) (r:Int) (n:Nat) (q:Int) (N:List (List Int)):Prop where
 e:F184 x r (n:Int) q=some N
 s:F280 x r (n:Int) q=some N
 red:Red x.Complex.Prime (dm x n) N
 sp:∀v,Sp x.Complex.Prime (dm x n) N v↔NearP x r n q v
 len:zN x r n q=N.length
theorem zq{x:qc}(hs:qB x)(h:qv x){n:Nat}(hn:n < x.Levels.length){r q:Int}(hr: -100≤r∧r≤100)(hq: -100≤q∧q≤100):∃N,NearL x r n q N:=by
 obtain⟨N,n1,n2,n3⟩:=zA hs h hn hr hq;exact⟨N,n1,n2,n3,xJ hs h hn hr hq n1,by unfold zN; rw[n1]; rfl⟩
theorem zN_top{x:qc}(hs:qB x)(h:qv x){r q:Int}(hr: -100≤r∧r≤100)(hq: -100≤q∧q≤100):zN x r x.Levels.length q=0:=by
 unfold zN; rw[near_top hs h hr hq]; rfl
theorem red_same{p:Int}{w:Nat}(hp:1 < p){A B:List (List Int)}(hA:Red p w A)(hB:Red p w B)(h:∀v,Sp p w A v↔Sp p w B v):A=B:=
 ze.same hp (ze.self hA) ⟨hB,fun v=>(h v).symm⟩
theorem zN_same{x:qc}(hs:qB x)(h:qv x){n:Nat}(hn:n < x.Levels.length){r q r' q':Int}(hr: -100≤r∧r≤100)(hq: -100≤q∧q≤100)(hr': -100≤r'∧r'≤100)(hq': -100≤q'∧q'≤100)
  (h1:∀v,NearP x r n q v↔NearP x r' n q' v):zN x r n q=zN x r' n q':=by
 have hp1:1 < x.Complex.Prime:=by have:=h.vc.p.range; omega
 obtain⟨N,a⟩:=zq hs h hn hr hq;obtain⟨N',b⟩:=zq hs h hn hr' hq';rw[a.len,b.len,red_same hp1 a.red b.red fun v=>(a.sp v).trans ((h1 v).trans (b.sp v).symm)]
theorem near_diff{x:qc}(h:qv x){n:Nat}(hn:n+1 < x.Levels.length){r s q t r':Int}(hrs:q - s=t)(hle:t≤q - r){v:List Int}:NearP x s (n+1) q v↔NearP x r (n+1) q v∧NearP x r' n t (df x n v):=by
 have hp0:0 < x.Complex.Prime:=by have:=h.vc.p.range; omega
 constructor
 ·rintro⟨v1,v2,v3⟩
  refine⟨⟨v1,v2,fun n0 j hj hlt=> v3 n0 j hj (by omega)⟩,df_near h hn r' v1 fun j hj hlt=>?_⟩;have:=v3 (by omega) j (by rw[vM]; exact hj) (by rw[vM]; omega);exact this
 ·rintro⟨⟨v1,v2,v3⟩,w1,w2,w3⟩
  refine⟨v1,v2,fun n0 j hj hlt=>?_⟩;rw[vM]at hj hlt;have a:=w2 j hj (by omega);have b:=df_at h hn v1 hj;rw[a]at b;exact b.symm
theorem low_map{x:qc}{n:Nat}{N:List (List Int)}:low x n N=N.map (df x n):=rfl
theorem bot_count{x:qc}(hs:qB x)(h:qv x){n:Nat}(hn:n < x.Levels.length){r q:Int}(hr: -30≤r∧r≤30)(hq: -30≤q∧q≤30):
  ∃B,F185 x r (n:Int) q=some B∧F279 x r (n:Int) q=some B∧Red x.Complex.Prime (dm x n) B∧(B.length:Int)=zN x (r - 1) n (q - 1)+zN x (r - 1) (n+1) (q+r - 1) - zN x r (n+1) (q+r - 1):=by
 have hp1:1 < x.Complex.Prime:=by have:=h.vc.p.range; omega
 obtain⟨B,A,b1,b2,b3,b4,b5,b6,b7⟩:=jX hs h hn (r:=r) (q:=q) (by omega) (by omega);refine⟨B,b1,b2,b3,?_⟩;obtain⟨A',a⟩:=zq hs h hn (r:=r - 1) (q:=q - 1) (by omega) (by omega);have ea:A=A':=by have:=a.e; rw[b4]at this; exact wA this
 subst ea;by_cases c:n+1 < x.Levels.length
 ·obtain⟨D,d1,d2,d3⟩:=b6 c
  obtain⟨D',d⟩:=zq hs h c (r:=r - 1) (q:=q+r - 1) (by omega) (by omega);have ed:D=D':=by have:=d.e; rw[d1]at this; exact wA this
  subst ed;obtain⟨K,k⟩:=zq hs h c (r:=r) (q:=q+r - 1) (by omega) (by omega);rw[low_map]at d3;have key:=rel_count hp1 h.vc.p.inv (df_lin h c) a.red d.red k.red (fun v=> by
   rw[k.sp,d.sp,a.sp];exact near_diff h c (by omega) (by omega)) d3
  rw[a.len,d.len,k.len];omega
 ·have hl:n+1=x.Levels.length:=by omega
  have e:=ze.same hp1 (b7 c) (ze.self b5);rw[hl,zN_top hs h (by omega) (by omega),zN_top hs h (by omega) (by omega),a.len,e];omega
noncomputable def pgN(x:qc)(r:Int)(n:Nat)(q:Int):Int:=zN x r n q - zN x (r - 1) n (q - 1) - zN x (r - 1) (n+1) (q+r - 1)+zN x r (n+1) (q+r - 1)
noncomputable def pgR(x:qc)(r:Int)(n:Nat)(q:Int):Int:=zN x r n q - zN x (r+1) n q - zN x (r - 1) n (q - 1)+zN x r n (q - 1)
theorem page_num{x:qc}(hs:qB x)(h:qv x){n:Nat}(hn:n < x.Levels.length){r q:Int}(hr: -30≤r∧r≤30)(hq: -30≤q∧q≤30):F169 x r (n:Int) q=some (pgN x r n q):=by
 have hd:=zx h hn;obtain⟨N,a⟩:=zq hs h hn (r:=r) (q:=q) (by omega) (by omega);obtain⟨B,b1,b2,b3,b4⟩:=bot_count hs h hn hr hq;have l1:=qL a.red;have l2:=qL b3;unfold F169;rw[a.e,ob,b1,ob,qk (by omega) (by omega),ob];refine congrArg some ?_;unfold pgN;rw[a.len];omega
theorem page_next{x:qc}{r:Int}{n:Nat}{q:Int}:pgN x (r+1) n q=pgN x r n q - pgR x r n q - pgR x r (n+1) (q+r):=by
 unfold pgN pgR;rw[show r+1 - 1=r by omega,show q+(r+1) - 1=q+r by omega];omega
theorem page_rank{x:qc}(hs:qB x)(h:qv x){m:Nat}(hm:m+1 < x.Levels.length){r q:Int}(hr:0≤r∧r≤8)(hq:0≤q∧q≤5)(hrq:r≤q):F248 x r ((m+1:Nat):Int) q=some (pgR x r (m+1) q):=by
 have hp:=h.vc.p;have hp1:1 < x.Complex.Prime:=by have:=hp.range; omega
 have hp0:0 < x.Complex.Prime:=by omega
 have hsl:=hs.l;have hd:=zx h hm;have hd0:=zx h (n:=m) (by omega);have hm0:m < x.Levels.length:=by omega
 obtain⟨N,a⟩:=zq hs h hm (r:=r) (q:=q) (by omega) (by omega);obtain⟨K,k⟩:=zq hs h hm (r:=r+1) (q:=q) (by omega) (by omega);obtain⟨B,b1,b2,b3,b4⟩:=bot_count hs h hm0 (r:=r) (q:=q - r) (by omega) (by omega);obtain⟨B',A,c1,c2,c3,c4,c5,c6, -⟩:=jX hs h hm0 (r:=r) (q:=q - r) (by omega) (by omega);have eb:B=B':=by rw[b1]at c1; exact wA c1
 subst eb;obtain⟨D,d1,d2,d3⟩:=c6 hm;obtain⟨A',a'⟩:=zq hs h hm0 (r:=r - 1) (q:=q - r - 1) (by omega) (by omega);have ea:A=A':=by have:=a'.e; rw[c4]at this; exact wA this
 subst ea;obtain⟨D',d⟩:=zq hs h hm (r:=r - 1) (q:=q - r+r - 1) (by omega) (by omega);have ed:D=D':=by have:=d.e; rw[d1]at this; exact wA this
 subst ed;have hNl:=qL a.red;have hBl:=qL b3;have hlow:=low_ok h hm a.red;have hR:Rows x.Complex.Prime (dm x m) (B++low x m N):=fun v hv=>(wI.1 hv).elim (b3.ok v) (hlow v);have hR2:Rows x.Complex.Prime (dm x m) (A++low x m N):=fun v hv=>(wI.1 hv).elim (c5.ok v) (hlow v);have hll:(low x m N).length=N.length:=by simp[low]
 obtain⟨E,e1,e2⟩:=F131_ech hp hR (by omega) (by rw[wM,hll]; omega);have hDN:∀v,Sp x.Complex.Prime (dm x (m+1)) D v→Sp x.Complex.Prime (dm x (m+1)) N v:=fun v hv=> by
  obtain⟨v1,v2,v3⟩:=(d.sp v).1 hv;exact(a.sp v).2 ⟨v1,fun i hi hlt=> v2 i hi (by omega),fun n0 j hj hlt=> v3 n0 j hj (by omega)⟩
 have hE:ze x.Complex.Prime (dm x m) (A++N.map (df x m)) E:=⟨e2.red,fun v=>(e2.sp v).trans ⟨fun hv=> hv.into hp0 hR2 fun u hu=>?_,fun hv=> hv.into hp0 hR fun u hu=>?_⟩⟩
 ·have key:=rel_count hp1 hp.inv (df_lin h hm) a'.red a.red k.red (fun v=> by
   rw[k.sp,a.sp,a'.sp];exact near_diff h hm (by omega) (by omega)) hE
  have hEl:=qL e2.red;have hN0:N.length≤8:=by omega
  unfold F248;rw[if_neg (by omega),if_neg (by omega),qk (by omega) (by omega),ob,qk (by omega) (by omega),ob,show(((m+1:Nat):Int) - 1)=(m:Int) by omega,b2,ob];rw[qH (by simp; omega) (by simp; omega),ob,a.s,ob,F281_eq hs h hm a.red,ob,vH];rw[qH (by omega) (by omega),ob,e1,ob,qk (by omega) (by omega),ob];refine congrArg some ?_;unfold pgR;rw[show q - r+r - 1=q - 1 by omega]at b4;rw[a.len,k.len];have l':=a'.len;omega
 ·rcases wI.1 hu with q1|q1
  ·refine((d3.sp u).1 (.mem hp0 b3.ok q1)).into hp0 hR2 fun w hw=>?_
   rcases wI.1 hw with q2|q2
   ·exact .mem hp0 hR2 (wZ _ q2)
   ·obtain⟨z,hz,rfl⟩:=wJ.1 q2
    have hz':Sp x.Complex.Prime (dm x (m+1)) N z:=hDN z (.mem hp0 d.red.ok hz);exact((df_lin h hm).sp hp0 a.red.ok hz').mono fun w hw=> wY _ hw
  ·exact .mem hp0 hR2 (wY _ q1)
 ·rcases wI.1 hu with q1|q1
  ·have:Sp x.Complex.Prime (dm x m) B u:=(d3.sp u).2 (.mem hp0 (fun v hv=>(wI.1 hv).elim (c5.ok v) (low_ok h hm d.red v)) (wZ _ q1))
   exact this.mono fun w hw=> wZ _ hw
  ·exact .mem hp0 hR (wY _ q1)
theorem pgR_low{x:qc}(hs:qB x)(h:qv x){n:Nat}(hn:n < x.Levels.length){r q:Int}(hr: -20≤r∧r≤20)(hq: -20≤q∧q≤20)(h0:n=0∨q < r):pgR x r n q=0:=by
 have hlv:∀j,j < dm x (n - 1)→n≠0→0≤lv x (n - 1) j:=fun j hj n0=>(lv_rng h (n:=n - 1) (by omega) hj).1;have e1:zN x r n q=zN x (r+1) n q:=zN_same hs h hn (by omega) (by omega) (by omega) (by omega) fun v=> by
  constructor
  ·rintro⟨v1,v2,v3⟩
   exact⟨v1,v2,fun n0 j hj hlt=> v3 n0 j hj (by have:=hlv j hj n0; omega)⟩
  ·rintro⟨v1,v2,v3⟩
   exact⟨v1,v2,fun n0 j hj hlt=> v3 n0 j hj (by have:=hlv j hj n0; omega)⟩
 have e2:zN x (r - 1) n (q - 1)=zN x r n (q - 1):=zN_same hs h hn (by omega) (by omega) (by omega) (by omega) fun v=> by
  constructor
  ·rintro⟨v1,v2,v3⟩
   exact⟨v1,v2,fun n0 j hj hlt=> v3 n0 j hj (by have:=hlv j hj n0; omega)⟩
  ·rintro⟨v1,v2,v3⟩
   exact⟨v1,v2,fun n0 j hj hlt=> v3 n0 j hj (by have:=hlv j hj n0; omega)⟩
 unfold pgR; omega
theorem pgR_top{x:qc}(hs:qB x)(h:qv x){r q:Int}(hr: -20≤r∧r≤20)(hq: -20≤q∧q≤20):pgR x r x.Levels.length q=0:=by
 unfold pgR;rw[zN_top hs h (by omega) (by omega),zN_top hs h (by omega) (by omega),zN_top hs h (by omega) (by omega),zN_top hs h (by omega) (by omega)];rfl
theorem pgR_high{x:qc}(hs:qB x)(h:qv x){n:Nat}(hn:n < x.Levels.length){r q:Int}(hr: -20≤r∧r≤20)(hq: -20≤q∧q≤20)(h5:5 < q):pgR x r n q=0:=by
 have hlv:∀i,i < dm x n→lv x n i≤5:=fun i hi=>(lv_rng h hn hi).2;have e1:zN x r n q=zN x (r - 1) n (q - 1):=zN_same hs h hn (by omega) (by omega) (by omega) (by omega) fun v=> by
  constructor
  ·rintro⟨v1,v2,v3⟩
   exact⟨v1,fun i hi hlt=> absurd (hlv i hi) (by omega),fun n0 j hj hlt=> v3 n0 j hj (by omega)⟩
  ·rintro⟨v1,v2,v3⟩
   exact⟨v1,fun i hi hlt=> absurd (hlv i hi) (by omega),fun n0 j hj hlt=> v3 n0 j hj (by omega)⟩
 have e2:zN x (r+1) n q=zN x r n (q - 1):=zN_same hs h hn (by omega) (by omega) (by omega) (by omega) fun v=> by
  constructor
  ·rintro⟨v1,v2,v3⟩
   exact⟨v1,fun i hi hlt=> absurd (hlv i hi) (by omega),fun n0 j hj hlt=> v3 n0 j hj (by omega)⟩
  ·rintro⟨v1,v2,v3⟩
   exact⟨v1,fun i hi hlt=> absurd (hlv i hi) (by omega),fun n0 j hj hlt=> v3 n0 j hj (by omega)⟩
 unfold pgR; omega
theorem page_rank_all{x:qc}(hs:qB x)(h:qv x){n:Nat}(hn:n < x.Levels.length){r q:Int}(hr:0≤r∧r≤8)(hq:0≤q∧q≤5):F248 x r (n:Int) q=some (pgR x r n q):=by
 by_cases c:n=0∨q < r
 ·rw[pgR_low hs h hn (by omega) (by omega) c]
  unfold F248;by_cases c0:n=0
  ·rw[if_pos (by omega)]
  ·rw[if_neg (by omega),if_pos (by omega)]
 ·obtain⟨m,rfl⟩:∃m,n=m+1:=⟨n - 1,by omega⟩
  exact page_rank hs h hn hr hq (by omega)
theorem sgk_next(k:Nat):sgk (k+1)= -(sgk k):=by unfold sgk; split <;> split <;> omega
theorem sumI_addm{f g:Nat→Int}:∀n,sumI (fun i=> f i+g i) n=sumI f n+sumI g n
 |0=> rfl
 |n+1=> by simp only[sumI]; rw[sumI_addm n]; omega
theorem sumI_subm{f g:Nat→Int}:∀n,sumI (fun i=> f i - g i) n=sumI f n - sumI g n
 |0=> rfl
 |n+1=> by simp only[sumI]; rw[sumI_subm n]; omega
theorem tele(S:Nat→Int):∀L,sumI (fun n=> sgk n*(S n+S (n+1))) L=S 0 - sgk L*S L
 |0=> by simp[sumI,sgk]
 |L+1=> by
  simp only[sumI];rw[tele S L,sgk_next,Int.mul_add,Int.neg_mul];omega
theorem tele6(S:Int→Int):∀L:Nat,sumI (fun q=> S (q:Int) - S ((q:Int) - 1)) L=S ((L:Int) - 1) - S (-1)
 |0=> by simp[sumI]
 |L+1=> by
  simp only[sumI];rw[tele6 S L,show((L+1:Nat):Int) - 1=(L:Int) by omega];omega
theorem pgR_shift{x:qc}(hs:qB x)(h:qv x){n:Nat}(hn:n≤x.Levels.length){r:Nat}(hr:r≤8):sumI (fun q=> pgR x (r:Int) n ((q:Int)+r)) 6=sumI (fun q=> pgR x (r:Int) n (q:Int)) 6:=by
 have z:∀q:Int, -20≤q→q≤20→(q < r∨5 < q)→pgR x (r:Int) n q=0:=fun q q0 q1 hq=> by
  by_cases c:n < x.Levels.length
  ·rcases hq with hq|hq
   ·exact pgR_low hs h c (by omega) (by omega) (.inr hq)
   ·exact pgR_high hs h c (by omega) (by omega) hq
  ·have:n=x.Levels.length:=by omega
   rw[this]; exact pgR_top hs h (by omega) (by omega)
 have a:sumI (fun q=> pgR x (r:Int) n (q:Int)) (r+6)=sumI (fun q=> pgR x (r:Int) n ((q:Int)+r)) 6:=by
  rw[sumI_app,jQ fun i hi=> z i (by omega) (by omega) (.inl (by omega)),Int.zero_add];exact zo fun i hi=> by rw[show((r+i:Nat):Int)=(i:Int)+r by omega]
 have b:sumI (fun q=> pgR x (r:Int) n (q:Int)) (6+r)=sumI (fun q=> pgR x (r:Int) n (q:Int)) 6:=by
  rw[sumI_app,jQ (f:=fun i=> pgR x (r:Int) n ((6+i:Nat):Int)) fun i hi=> z _ (by omega) (by omega) (.inr (by omega)),Int.add_zero]
 rw[←a,←b,Nat.add_comm]
noncomputable def euP(x:qc)(r:Int):Int:=sumI (fun n=> sgk n*sumI (fun q=> pgN x r n (q:Int)) 6) x.Levels.length
theorem eu_next{x:qc}(hs:qB x)(h:qv x){r:Nat}(hr:r≤8):euP x ((r:Int)+1)=euP x r:=by
 have e:∀n,n < x.Levels.length→sgk n*sumI (fun q=> pgN x ((r:Int)+1) n (q:Int)) 6=sgk n*sumI (fun q=> pgN x (r:Int) n (q:Int)) 6 - sgk n*(sumI (fun q=> pgR x (r:Int) n (q:Int)) 6+sumI (fun q=> pgR x (r:Int) (n+1) (q:Int)) 6):=fun n hn=> by
  rw[←pgR_shift hs h (n:=n+1) (by omega) hr,←sumI_addm,←Int.mul_sub,←sumI_subm]
  congr 1
  exact zo fun q hq=> by rw[page_next]; omega
 unfold euP;rw[zo e,sumI_subm,tele fun n=> sumI (fun q=> pgR x (r:Int) n (q:Int)) 6];have z0:sumI (fun q=> pgR x (r:Int) 0 (q:Int)) 6=0:=jQ fun q hq=> by
  by_cases c:0 < x.Levels.length
  ·exact pgR_low hs h c (by omega) (by omega) (.inl rfl)
  ·have:(0:Nat)=x.Levels.length:=by omega
   have t:=pgR_top hs h (r:=(r:Int)) (q:=(q:Int)) (by omega) (by omega)
   rwa[←this]at t
 have z1:sumI (fun q=> pgR x (r:Int) x.Levels.length (q:Int)) 6=0:=jQ fun q hq=> pgR_top hs h (by omega) (by omega);rw[z0,z1];omega
theorem eu_all{x:qc}(hs:qB x)(h:qv x):∀ {r:Nat},r≤9→euP x (r:Int)=euP x 0
 |0,_=> rfl
 |r+1,hr=> by
  have:=eu_next hs h (r:=r) (by omega);rw[show((r+1:Nat):Int)=(r:Int)+1 by omega,this,eu_all hs h (by omega)]
theorem near_low{x:qc}(hs:qB x)(h:qv x){n:Nat}(hn:n < x.Levels.length){r q:Int}(hr:r≤0)(v:List Int):NearP x r n q v↔qM x.Complex.Prime (dm x n) v∧∀i,i < dm x n→q < lv x n i→nth v i=0:=by
 constructor
 ·rintro⟨v1,v2, -⟩; exact⟨v1,v2⟩
 ·rintro⟨v1,v2⟩
  refine⟨v1,v2,fun n0 j hj hlt=>?_⟩;obtain⟨m,rfl⟩:∃m,n=m+1:=⟨n - 1,by omega⟩;rw[vM]at hj hlt;have:dot (nth v) (mt x (m+1)) (dm x (m+1)) j=0:=jQ fun i hi=> by
   by_cases c:q < lv x (m+1) i
   ·rw[v2 i hi c,Int.zero_mul]
   ·obtain⟨t1,t2,t3⟩:=mt_ok h hn
    have hrow:=(t3 _ (zL (show i < (mt x (m+1)).length by omega))).len;have hin:InT x.Complex.Maps m i j:=⟨t1,by rw[←t2]at hi; exact hi,by
     show j < (qC (x.Complex.Maps.getD m []) i).length;have e:qC (mt x (m+1)) i=qC (x.Complex.Maps.getD m []) i:=rfl;rw[←e,hrow]; exact hj⟩
    rcases h.le m i j hin with z|z
    ·have:nth (qC (mt x (m+1)) i) j=0:=z
     rw[this,Int.mul_zero]
    ·exfalso
     have z':lv x m j≤lv x (m+1) i:=z;omega
  rw[this]; exact .refl _ _
theorem zN_low{x:qc}(hs:qB x)(h:qv x){n:Nat}(hn:n≤x.Levels.length){r r' q:Int}(hr: -50≤r∧r≤0)(hr': -50≤r'∧r'≤0)(hq: -50≤q∧q≤50):zN x r n q=zN x r' n q:=by
 by_cases c:n < x.Levels.length
 ·exact zN_same hs h c (by omega) (by omega) (by omega) (by omega) fun v=>(near_low hs h c hr.2 v).trans (near_low hs h c hr'.2 v).symm
 ·have:n=x.Levels.length:=by omega
  rw[this,zN_top hs h (by omega) (by omega),zN_top hs h (by omega) (by omega)]
theorem zN_all{x:qc}(hs:qB x)(h:qv x){n:Nat}(hn:n < x.Levels.length):zN x 0 n 5=(dm x n:Int):=by
 have hp1:1 < x.Complex.Prime:=by have:=h.vc.p.range; omega
 obtain⟨N,a⟩:=zq hs h hn (r:=0) (q:=5) (by omega) (by omega);have e:N=jq (dm x n):=red_same hp1 a.red (jk hp1 _) fun v=>(a.sp v).trans ((near_low hs h hn (vW _) v).trans ⟨fun q=> units_sp hp1 q.1,fun q=>⟨q.ok (by omega) (jk hp1 _).ok,fun i hi hlt=> absurd (lv_rng h hn hi).2 (by omega)⟩⟩);rw[a.len,e,xx]
theorem zN_none{x:qc}(hs:qB x)(h:qv x){n:Nat}(hn:n < x.Levels.length):zN x 0 n (-1)=0:=by
 have hp1:1 < x.Complex.Prime:=by have:=h.vc.p.range; omega
 obtain⟨N,a⟩:=zq hs h hn (r:=0) (q:= -1) (by omega) (by omega);have nil:Red x.Complex.Prime (dm x n) []:=(ze.nil _ _).red;have e:N=[]:=red_same hp1 a.red nil fun v=>(a.sp v).trans ((near_low hs h hn (vW _) v).trans ⟨fun q=> by
   have hz:v=zv (dm x n):=nth_ext (by rw[q.1.len]; simp[zv]) fun j hj=> by
    rw[q.1.len]at hj;rw[q.2 j hj (by have:=(lv_rng h hn hj).1; omega),zk]
   rw[hz]; exact .zero,fun q=> by
   have hz:v=zv (dm x n):=Sp.zeros (R:=[]) (by omega) (fun r hr=> nomatch hr) q;exact⟨q.ok (by omega) nil.ok,fun i _ _=> by rw[hz,zk]⟩⟩)
 rw[a.len,e]; rfl
theorem eu_zero{x:qc}(hs:qB x)(h:qv x):euP x 0=sumI (fun n=> sgk n*(dm x n:Int)) x.Levels.length:=by
 unfold euP;refine zo fun n hn=>?_
 congr 1
 have e:sumI (fun q=> pgN x 0 n (q:Int)) 6=sumI (fun q=> zN x 0 n (q:Int) - zN x 0 n ((q:Int) - 1)) 6:=zo fun q hq=> by
  unfold pgN;rw[zN_low hs h (n:=n) (r:=0 - 1) (r':=0) (q:=(q:Int) - 1) (by omega) (by omega) (by omega) (by omega),zN_low hs h (n:=n+1) (r:=0 - 1) (r':=0) (q:=(q:Int)+0 - 1) (by omega) (by omega) (by omega) (by omega)];omega
 rw[e,tele6 (fun q=> zN x 0 n q) 6];show zN x 0 n 5 - zN x 0 n (-1)=_;rw[zN_all hs h hn,zN_none hs h hn,Int.sub_zero]
theorem lim_total{x:qc}(hs:qB x)(h:qv x){n:Nat}(hn:n < x.Levels.length):∃K B,F98 x.Complex (n:Int)=some K∧F100 x.Complex (n:Int)=some K∧F251 x.Complex (n:Int)=some B∧F186 x.Complex (n:Int)=some B∧sumI (fun q=> limN x n q) 6=(K.length:Int) - B.length:=by
 have hp1:1 < x.Complex.Prime:=by have:=h.vc.p.range; omega
 have hp0:0 < x.Complex.Prime:=by omega
 have hll:=h.ll;obtain⟨K,k1,k2,k3⟩:=cyc_full hs h hn;obtain⟨K',k4,k5, -⟩:=cycles_same hs.c h.vc (n:=n) (by omega);have ek:K=K':=by rw[k1]at k4; exact wA k4
 subst ek;obtain⟨B,b1,b2,b3,b4,b5⟩:=bounds_full hs.c h.vc (n:=n) (by omega);have hdd:dc x.Complex n=dm x n:=rfl;rw[hdd]at b3 b4;refine⟨K,B,k1,k5,b1,b2,?_⟩;have key:sumI (fun q=> limN x n q) 6=held x n 5 - held x n (-1):=tele6 (fun q=> held x n q) 6;obtain⟨Z,B5,W,z1,z2,z3, -, -, -,z4⟩:=held_eq hs h hn (q:=5) (by omega);obtain⟨Z',B6,W',y1,y2,y3, -, -, -,y4⟩:=held_eq hs h hn (q:= -1) (by omega);have e5:B5=B:=by rw[b2]at z2; exact(wA z2).symm
 have e6:B6=B:=by rw[b2]at y2; exact(wA y2).symm
 rw[e5]at z3; rw[e6]at y3;rw[key,z4,y4]
 -- all cycles
 obtain⟨N,a⟩:=zq hs h hn (r:=6) (q:=5) (by omega) (by omega);have eN:Z=N:=by have:=a.e; rw[z1]at this; exact wA this
 subst eN;have hZK:∀v,Sp x.Complex.Prime (dm x n) Z v↔Sp x.Complex.Prime (dm x n) K v:=fun v=>(a.sp v).trans ((⟨fun q=>⟨q.1,fun n0 j hj=> q.2.2 n0 j hj (by have:=(lv_rng h (n:=n - 1) (by omega) hj).1; omega)⟩,fun q=>⟨q.1,fun i hi hlt=> absurd (lv_rng h hn hi).2 (by omega),fun n0 j hj _=> q.2 n0 j hj⟩⟩:_↔_).trans (k3 v).symm);have hBK:∀b∈B,Sp x.Complex.Prime (dm x n) K b:=fun b hb=> by
  by_cases c:n+1 < x.Complex.Dims.length
  ·have c':n+1 < x.Levels.length:=by omega
   have hsp:=((b4 c).sp b).1 (.mem hp0 b3.ok hb);have hrows:Rows x.Complex.Prime (dm x n) (x.Complex.Maps.getD n []):=(mt_ok h c').2.2;refine hsp.into hp0 (k2.ok) fun r hr=>?_;obtain⟨i,hi,rfl⟩:=mem_row.1 hr;have hi':i < dm x (n+1):=by have:=(mt_ok h c').2.1; show i < dm x (n+1); rw[←this]; exact hi
   have hu:=df_unit h c' hi';have huv:=unitv_ok hp1 hi';have er:qC (x.Complex.Maps.getD n []) i=df x n (jI (dm x (n+1)) i):=hu.symm;rw[er];have hok:=df_ok h c' huv;refine(k3 _).2 ⟨hok,fun n0 j hj=>?_⟩;obtain⟨m,rfl⟩:∃m,n=m+1:=⟨n - 1,by omega⟩;have h1:=df_at h (n:=m) (by omega) hok (j:=j) (by rw[vM]at hj; exact hj);rw[df_df h c' huv,zk]at h1;exact h1.symm
  ·rw[b5 c]at hb; exact absurd hb (by simp)
 have eW:W=K:=red_same hp1 z3.red k2 fun v=>(z3.sp v).trans ⟨fun q=> q.into hp0 k2.ok fun r hr=>(wI.1 hr).elim (fun q1=>(hZK r).1 (.mem hp0 a.red.ok q1)) (hBK r),fun q=>(((hZK v).2 q)).mono fun r hr=> wZ _ hr⟩
 -- none
 obtain⟨M,b⟩:=zq hs h hn (r:=6) (q:= -1) (by omega) (by omega);have eM:Z'=M:=by have:=b.e; rw[y1]at this; exact wA this
 subst eM;have hz:∀v,Sp x.Complex.Prime (dm x n) Z' v→v=zv (dm x n):=fun v hv=> by
  have q:=(b.sp v).1 hv;exact nth_ext (by rw[q.1.len]; simp[zv]) fun j hj=> by
   rw[q.1.len]at hj;rw[q.2.1 j hj (by have:=(lv_rng h hn hj).1; omega),zk]
 have eW':W'=B:=red_same hp1 y3.red b3 fun v=>(y3.sp v).trans ⟨fun q=> q.into hp0 b3.ok fun r hr=>(wI.1 hr).elim (fun q1=> by rw[hz r (.mem hp0 b.red.ok q1)]; exact .zero) (fun q1=> .mem hp0 b3.ok q1),fun q=> q.mono fun r hr=> wY _ hr⟩;rw[eW,eW']
structure LvOK (x:qe) (n:Nat) (o:List (List Int)):Prop where
 l:o.length=n
 r:∀m,m < n→(o.getD m []).length=dc x m∧∀y∈o.getD m [],0≤y∧y≤5
theorem lev_loop{x:qe}(h:WideC x){n i:Nat}(hn:n < x.Dims.length)(hi:i < dc x n){o:List (List Int)}(ho:LvOK x n o){rows:List (List Int)}(hr:n≠0→rows.length=dc x n∧∀r∈rows,r.length=dc x (n - 1))(x1:T2 Int ql)(a:Int)(b:List Int)(c:List (List (List Int)))(u:List U8)(v w:Int)(o5:List Int):
  ∃t,qY (F453_3_S x x1 o a b c (n:Int) rows u v w o5 (i:Int)) (0,0)=some t∧0≤t∧t≤5:=by
 have hdl:=h.dl;refine qX (S:=F453_3_S x x1 o a b c (n:Int) rows u v w o5 (i:Int)) (fun s=>(100 - s.2).toNat) (fun s=>∃k:Nat,s.2=(k:Int)∧k≤dc x (n - 1)∧0≤s.1∧s.1≤5) _ ⟨0,rfl,vO _,by simp,by simp⟩ ?_;rintro⟨m,k'⟩ ⟨k,p1,p2,p3,p4⟩;simp only at p1 p3 p4;subst p1;have hd:=dc_lew h (n - 1);unfold F453_3_S;simp only;by_cases c0:n=0
 ·right
  rw[if_neg (by omega)];exact⟨_,rfl,p3,p4⟩
 obtain⟨r1,r2⟩:=hr c0;have hn1:n - 1 < x.Dims.length:=by omega
 rw[if_pos (by omega),qk (by omega) (by omega),ob,show(n:Int) - 1=((n - 1:Nat):Int) by omega,qp hn1 0,ob,dc_atw h hn1];by_cases c1:k < dc x (n - 1)
 ·left
  have hrl:(rows.getD i []).length=dc x (n - 1):=r2 _ (qT (by omega) []);obtain⟨o1,o2⟩:=ho.r (n - 1) (by omega);have hol:=ho.l;rw[if_pos (by omega),qp (show i < rows.length by omega) [],ob,qp (show k < (rows.getD i []).length by omega) 0,ob];by_cases c2:(rows.getD i []).getD k 0=0
  ·rw[if_pos c2,qk (by omega) (by omega),ob]
   exact⟨_,rfl,⟨k+1,rfl,by omega,p3,p4⟩,by simp only; omega⟩
  ·have hy:=o2 _ (qT (show k < (o.getD (n - 1) []).length by omega) 0)
   rw[if_neg c2,qp (show n - 1 < o.length by omega) [],ob,qp (show k < (o.getD (n - 1) []).length by omega) 0,ob,qk (by omega) (by omega),ob];refine⟨_,rfl,⟨k+1,rfl,by omega,?_,?_⟩,by simp only; omega⟩<;>(simp only; split <;> omega)
 ·right
  rw[if_neg (by omega)];exact⟨_,rfl,p3,p4⟩
theorem row_loop{x:qe}(h:WideC x){n:Nat}(hn:n < x.Dims.length){o:List (List Int)}(ho:LvOK x n o){rows:List (List Int)}(hr:n≠0→rows.length=dc x n∧∀r∈rows,r.length=dc x (n - 1)){x1:T2 Int ql}(h1:0≤x1.a∧x1.a≤5)(a:Int)(b:List Int)(c:List (List (List Int))){s:ql}(hs:zD s):
  ∃ (q:ql) (l:List Int),qY (xU x x1 o a b c (n:Int) rows) (s.code,s.at_,s.hash,[],0)=some (q.code,q.at_,q.hash,l)∧zD q∧l.length=dc x n∧∀y∈l,0≤y∧y≤5:=by
 have hd:=dc_lew h n;have L:∃t,qY (xU x x1 o a b c (n:Int) rows) (s.code,s.at_,s.hash,[],0)=some t∧(∃ (q:ql) (l:List Int),t=(q.code,q.at_,q.hash,l)∧zD q∧l.length=dc x n∧∀y∈l,0≤y∧y≤5):=by
  refine qX (S:=xU x x1 o a b c (n:Int) rows) (fun s=>(100 - s.2.2.2.2).toNat) (fun s=>∃ (q:ql) (l:List Int),s=(q.code,q.at_,q.hash,l,(l.length:Int))∧zD q∧l.length≤dc x n∧∀y∈l,0≤y∧y≤5) _ ⟨s,[],rfl,hs,vO _,fun y hy=> nomatch hy⟩ ?_;rintro _ ⟨q,l,rfl,k1,k2,k3⟩;unfold xU;simp only;rw[qp hn 0,ob,dc_atw h hn];by_cases c1:l.length < dc x n
  ·left
   obtain⟨t,g1,g2,g3⟩:=lev_loop h hn c1 ho hr x1 a b c q.code q.at_ q.hash l;obtain⟨v,q2,e1,i1,i2,i3, -⟩:=zz k1 (x1.a+1);have i3':=i3 (by omega);have e1':F416 ⟨q.code,q.at_,q.hash⟩ (x1.a+1)=some ⟨v,q2⟩:=e1;rw[if_pos (by omega),g1,ob,qk (by omega) (by omega),ob,e1',ob];dsimp only;rw[qk (by omega) (by omega),ob,qH (by simp; omega) (by simp; omega),ob,qk (by omega) (by omega),ob];refine⟨_,rfl,⟨q2,l++[if 5 < t+v then 5 else t+v],by simp,i1,by simp; omega,fun y hy=>?_⟩,by simp only; omega⟩;rcases wI.1 hy with hy|hy
   ·exact k3 y hy
   ·rw[List.mem_singleton.1 hy]; split <;> omega
  ·right
   rw[if_neg (by omega)];exact⟨_,rfl,q,l,rfl,k1,by omega,k3⟩
 obtain⟨_,g1,q,l,rfl,k1,k2,k3⟩:=L;exact⟨q,l,g1,k1,k2,k3⟩
theorem LvOK.snoc{x:qe}{n:Nat}{o:List (List Int)}(h:LvOK x n o){l:List Int}(h1:l.length=dc x n)(h2:∀y∈l,0≤y∧y≤5):LvOK x (n+1) (o++[l]):=by
 have hl:=h.l;refine⟨by simp[hl],fun m hm=>?_⟩;by_cases c:m < n
 ·rw[jT (by omega)]; exact h.r m c
 ·have e:m=o.length:=by omega
  subst e;rw[getD_app_one,hl]; exact⟨h1,h2⟩
theorem levels_ok{s:ql}(hs:zD s){x:qe}(h:DrawnC x):∃lv s',F453 s x=some ⟨⟨x,lv⟩,s'⟩∧zD s'∧LvOK x x.Dims.length lv:=by
 have hw:=h.w;have hl:=h.l;have hdl:=hw.dl;have hml:=hw.ml;have hS:=wide_small hw;obtain⟨v,s1,e1,k1,k2⟩:=xu hs (l:=[0,1,2,2,3,5]) (by simp) (by simp);have hv:0≤v∧v≤5:=by
  simp only[vB,yG,or_false]at k2;omega
 unfold F453;rw[e1,ob];dsimp only;obtain⟨t,g1,g2⟩:=qz (B:=F453_1_B x ⟨v,s1⟩) (D:=F453_1_D x ⟨v,s1⟩) x.Dims.length rfl (by omega) (fun n t=>∃ (q:ql) (o:List (List Int)),t=(q.code,q.at_,q.hash,o,x.Prime,x.Dims,x.Maps)∧zD q∧LvOK x n o) (fun t=>∃ (q:ql) (o:List (List Int)),t=(q.code,q.at_,q.hash,o,x.Prime,x.Dims,x.Maps)∧zD q∧LvOK x x.Dims.length o) (s:=(s1.code,s1.at_,s1.hash,[],x.Prime,x.Dims,x.Maps)) ⟨s1,[],rfl,k1,rfl,fun m hm=> absurd hm (yO _)⟩ (by
  rintro n _ hn ⟨q,o,rfl,h1,h2⟩;left;have hm:∃rows,F76 x (n:Int)=some rows∧(n≠0→rows.length=dc x n∧∀r∈rows,r.length=dc x (n - 1)):=by
   by_cases c:n=0
   ·subst c
    have h8:=dc_lew hw 0;exact⟨_,F76_0 hS.d (by omega) (dc_atw hw (by omega)) (by omega),fun e=> absurd rfl e⟩
   ·obtain⟨m,rfl⟩:∃m,n=m+1:=⟨n - 1,by omega⟩
    obtain⟨r1,r2⟩:=wide_rows hw hn;exact⟨_,F76_eq hS.d hn (by omega),fun _=>⟨r1,fun r hr=>(r2 r hr).len⟩⟩
  obtain⟨rows,a1,a2⟩:=hm;obtain⟨q2,l,b1,b2,b3,b4⟩:=row_loop hw hn h2 a2 (x1:=⟨v,s1⟩) hv x.Prime x.Dims x.Maps h1;have hol:=h2.l;unfold F453_1_B;dsimp only;rw[a1,ob,b1,ob];dsimp only;rw[qH (by simp only[List.length_singleton]; omega) (by simp only[List.length_singleton]; omega),ob];exact⟨_,rfl,q2,_,rfl,b2,h2.snoc b3 b4⟩) (by
  rintro _ ⟨q,o,rfl,h1,h2⟩;exact⟨_,rfl,q,o,rfl,h1,h2⟩)
 obtain⟨q,o,rfl,h1,h2⟩:=g2;rw[g1,ob];exact⟨o,q,rfl,h1,h2⟩
theorem draw2_ok{s:ql}(hs:zD s):∃x lv s',F452 s=some ⟨⟨x,lv⟩,s'⟩∧zD s'∧DrawnC x∧LvOK x x.Dims.length lv:=by
 obtain⟨x,s1,e1,k1,k2⟩:=draw_ok hs;obtain⟨lv,s2,e2,k3,k4⟩:=levels_ok k1 k2;unfold F452;rw[e1,ob];dsimp only;rw[e2,ob];exact⟨x,lv,s2,rfl,k3,k2,k4⟩
structure LooseF (x:qc):Prop where
 c:LooseC x.Complex
 l:x.Levels.length≤6
 r:∀q∈x.Levels,q.length≤200
theorem LooseF.small{x:qc}(h:LooseF x):qB x:=⟨h.c.s,by have:=h.l; omega,fun q hq=> by have:=h.r q hq; omega⟩
theorem spoil2_ok{s:ql}(hs:zD s):∃x s',F450 s=some ⟨x,s'⟩∧zD s'∧LooseF x:=by
 obtain⟨x,lv,s1,e1,k1,k2,k3⟩:=draw2_ok hs;have hl:=k2.l;have hdl:=k2.w.dl;have hll:=k3.l;have L:LooseC x:=⟨wide_small k2.w,hdl.1,by omega⟩;have hrow:∀q∈lv,q.length≤100:=fun q hq=> by
  obtain⟨m,hm,rfl⟩:=wP hq;have:=(k3.r m (by omega)).1;rw[show lv.getD m []=lv[m] by simp[hm]]at this;have:=dc_lew k2.w m;omega
 unfold F450;rw[e1,ob];dsimp only;have cp:forR 0 (lv.length:Int) (F450_1_B lv) F450_1_D []=some lv:=by
  obtain⟨t,g1,g2⟩:=qz (B:=F450_1_B lv) (D:=F450_1_D) lv.length rfl (by omega) (fun n t=> t=lv.take n) (fun t=> t=lv) (s:=[]) (by simp) (by
   rintro n _ hn rfl;left;have hq:=hrow _ (qT hn []);unfold F450_1_B;rw[qp hn [],ob,F94_eq (by omega),ob,qH (by simp only[List.length_singleton,yH]; omega) (by simp only[List.length_singleton,yH]; omega),ob];exact⟨_,rfl,(take_one [] hn).symm▸rfl⟩) (by
   rintro _ rfl;exact⟨_,rfl,vJ⟩)
  rw[g1,g2]
 rw[cp,ob];obtain⟨n,s2,e2,i1,i2,i3, -⟩:=zz k1 (lv.length:Int);have i3':=i3 (by omega);obtain⟨n',rfl⟩:∃n':Nat,n=(n':Int):=⟨n.toNat,by omega⟩;obtain⟨k,s3,e3,j1,j2,j3, -⟩:=zz i1 40;have hn:n' < lv.length:=by omega
 have hq:=hrow _ (qT hn []);have set_ok:∀r:List Int,r.length≤200→∀q∈lv.set n' r,q.length≤200:=fun r hr q hq=> by
  rcases List.mem_or_eq_of_mem_set hq with z|z
  ·have:=hrow q z; omega
  ·rw[z]; exact hr
 have hrow':∀q∈lv,q.length≤200:=fun q hq=> by have:=hrow q hq; omega
 rw[e2,ob];dsimp only;rw[e3,ob];dsimp only;by_cases c0:k=0
 ·rw[if_pos c0,qp hn [],ob,qH (by simp only[List.length_singleton]; omega) (by simp only[List.length_singleton]; omega),ob,zi hn,ob]
  exact⟨_,_,rfl,j1,L,by simp only[vZ]; omega,set_ok _ (by simp only[wM,List.length_singleton]; omega)⟩
 rw[if_neg c0];by_cases c1:k=1
 ·rw[if_pos c1,qp hn [],ob]
  by_cases c2:0 < (lv.getD n' []).length
  ·obtain⟨j,s4,e4,m1,m2,m3, -⟩:=zz j1 ((lv.getD n' []).length:Int)
   have m3':=m3 (by omega);obtain⟨j',rfl⟩:∃j':Nat,j=(j':Int):=⟨j.toNat,by omega⟩;obtain⟨v,s5,e5,m4, -⟩:=xu m1 (l:=[(-1),6,0]) (by simp) (by simp);rw[if_pos (by omega),e4,ob];dsimp only;rw[e5,ob];dsimp only;rw[zi (by omega),ob,zi hn,ob];exact⟨_,_,rfl,m4,L,by simp only[vZ]; omega,set_ok _ (by simp only[vZ]; omega)⟩
  ·rw[if_neg (by omega)]
   exact⟨_,_,rfl,j1,L,by simp only; omega,hrow'⟩
 rw[if_neg c1];by_cases c2:k=2
 ·rw[if_pos c2,if_pos (by omega)]
  exact⟨_,_,rfl,j1,L,by simp only[yQ]; omega,fun q hq=> hrow' q (yC hq)⟩
 rw[if_neg c2];by_cases c3:k=3
 ·obtain⟨y,s4,e4,m1,m2⟩:=bad_ok j1 k2
  rw[if_pos c3,e4,ob];exact⟨_,_,rfl,m1,m2,by simp only; omega,hrow'⟩
 rw[if_neg c3];exact⟨_,_,rfl,j1,L,by simp only; omega,hrow'⟩
theorem with_ok{code:List U8}(h:CodeOK code):∃x r n q,F447 code=some ⟨x,r,n,q⟩∧LooseF x∧(-4611686018427387904≤r∧r≤4611686018427387904)∧(0≤n∧n≤100)∧(0≤q∧q≤100):=by
 obtain⟨s,e1,k1⟩:=from_ok h.l h.b;obtain⟨x,s1,e2,k2,k3⟩:=spoil2_ok k1;obtain⟨v,s2,e3,k4,k5⟩:=near_ok k2 (m:=8) (by omega) (by omega);obtain⟨r,s3,e4,k6,k7⟩:=xu k4 (l:=[0,1,1,2,2,3,v]) (by simp) (by simp);obtain⟨a,s4,e5,k8,k9,ka, -⟩:=zz k6 24;have ka':=ka (by omega);have hl:=k3.l;have qa:quoI a 23=some (a/23):=by
  unfold quoI;rw[if_neg (by omega),Int.tdiv_eq_ediv_of_nonneg (by omega),qk (by omega) (by omega)]
 obtain⟨n,s5,e6,kb,kc,kd,ke⟩:=zz k8 ((x.Levels.length:Int)+a/23);obtain⟨b,s6,e7,kf,kg,kh, -⟩:=zz kb 24;have kh':=kh (by omega);have qb:quoI b 23=some (b/23):=by
  unfold quoI;rw[if_neg (by omega),Int.tdiv_eq_ediv_of_nonneg (by omega),qk (by omega) (by omega)]
 obtain⟨q,s7,e8,ki,kj,kk,kl⟩:=zz kf (6+b/23);have kk':=kk (by omega);have hn:n≤100:=by
  by_cases c:1≤(x.Levels.length:Int)+a/23
  ·have:=kd c; omega
  ·have:=ke (by omega); omega
 unfold F447;rw[e1,ob,e2,ob];dsimp only;rw[e3,ob];dsimp only;rw[e4,ob];dsimp only;rw[e5,ob];dsimp only;rw[qa,ob,qk (by omega) (by omega),ob,e6,ob];dsimp only;rw[e7,ob];dsimp only;rw[qb,ob,qk (by omega) (by omega),ob,e8,ob];refine⟨x,r,n,q,rfl,k3,?_,⟨kc,hn⟩,kj,by omega⟩;simp only[vB,yG,or_false]at k7;omega
theorem jS{x:qc}(hs:qB x)(h:qv x){n:Nat}(hn:n < x.Levels.length){r q:Int}(hr:0≤r∧r≤8)(hq:0≤q∧q≤5):F166 x r (n:Int) q=some 0∧F247 x r (n:Int) q=some 0:=by
 obtain⟨b,d1,d2,d3⟩:=(F38_tells hs).same (F41_tells hs);have hsl:=hs.l;have hsd:=hs.c.d;have hll:=h.ll;have hb:b=true:=d3.2 h;subst hb;unfold F166 F247;rw[d1,d2,ob,ob,if_pos rfl,if_pos rfl,xq,xf,ob,ob,if_pos (by simpa using hr),if_pos (by simpa using hr),xe hsd,ob,qk (by omega) (by omega),ob,xq,xf,ob,ob,hll,
  if_pos (by simp; omega),if_pos (by simp; omega),xq,xf,ob,if_pos (by simpa using hq)]
 exact⟨rfl,rfl⟩
theorem zN_rng{x:qc}(hs:qB x)(h:qv x){n:Nat}(hn:n≤x.Levels.length){r q:Int}(hr: -100≤r∧r≤100)(hq: -100≤q∧q≤100):0≤zN x r n q∧zN x r n q≤8:=by
 by_cases c:n < x.Levels.length
 ·have hd:=zx h c
  obtain⟨N,a⟩:=zq hs h c hr hq;have:=qL a.red;rw[a.len]; omega
 ·have:n=x.Levels.length:=by omega
  rw[this,zN_top hs h hr hq]; omega
theorem pgN_rng{x:qc}(hs:qB x)(h:qv x){n:Nat}(hn:n < x.Levels.length){r q:Int}(hr: -30≤r∧r≤30)(hq: -30≤q∧q≤30): -16≤pgN x r n q∧pgN x r n q≤16:=by
 have a:=zN_rng hs h (Nat.le_of_lt hn) (r:=r) (q:=q) (by omega) (by omega);have b:=zN_rng hs h (Nat.le_of_lt hn) (r:=r - 1) (q:=q - 1) (by omega) (by omega);have c:=zN_rng hs h (show n+1≤x.Levels.length by omega) (r:=r - 1) (q:=q+r - 1) (by omega) (by omega);have d:=zN_rng hs h (show n+1≤x.Levels.length by omega) (r:=r) (q:=q+r - 1) (by omega) (by omega);unfold pgN; omega
theorem pgR_rng{x:qc}(hs:qB x)(h:qv x){n:Nat}(hn:n < x.Levels.length){r q:Int}(hr: -30≤r∧r≤30)(hq: -30≤q∧q≤30): -16≤pgR x r n q∧pgR x r n q≤16:=by
 have a:=zN_rng hs h (Nat.le_of_lt hn) (r:=r) (q:=q) (by omega) (by omega);have b:=zN_rng hs h (Nat.le_of_lt hn) (r:=r+1) (q:=q) (by omega) (by omega);have c:=zN_rng hs h (Nat.le_of_lt hn) (r:=r - 1) (q:=q - 1) (by omega) (by omega);have d:=zN_rng hs h (Nat.le_of_lt hn) (r:=r) (q:=q - 1) (by omega) (by omega);unfold pgR; omega
theorem pn_fine{x:qc}(hs:qB x)(h:qv x){n:Nat}(hn:n < x.Levels.length){r q:Int}(hr:0≤r∧r≤8)(hq:0≤q∧q≤5):F151 x r (n:Int) q=some ⟨pgN x r n q,0⟩:=by
 unfold F151;rw[(jS hs h hn hr hq).1,ob,if_pos rfl,page_num hs h hn (by omega) (by omega),ob]
theorem pn_none{x:qc}{r n q c:Int}(h:F166 x r n q=some c)(hc:c≠0):F151 x r n q=some ⟨0,c⟩:=by
 unfold F151;rw[h,ob,if_neg hc]
theorem pn_fineS{x:qc}(hs:qB x)(h:qv x){n:Nat}(hn:n < x.Levels.length){r q:Int}(hr:0≤r∧r≤8)(hq:0≤q∧q≤5):F435 x r (n:Int) q=some ⟨pgN x r n q,0⟩:=by
 have e:=number_same hs h hn (r:=r) (q:=q) (by omega) (by omega);have e1:=page_num hs h hn (r:=r) (q:=q) (by omega) (by omega);rw[e1]at e;unfold F435;rw[(jS hs h hn hr hq).2,ob,if_pos rfl,e.2,ob]; rfl
theorem pn_noneS{x:qc}{r n q c:Int}(h:F247 x r n q=some c)(hc:c≠0):F435 x r n q=some ⟨0,c⟩:=by
 unfold F435;rw[h,ob,if_neg hc]
theorem dr_fine{x:qc}(hs:qB x)(h:qv x){n:Nat}(hn:n < x.Levels.length){r q:Int}(hr:0≤r∧r≤8)(hq:0≤q∧q≤5):F152 x r (n:Int) q=some ⟨pgR x r n q,0⟩:=by
 have e:=page_rank_all hs h hn hr hq;unfold F152;rw[(jS hs h hn hr hq).1,ob,if_pos rfl];by_cases h0:n=0∨q < r
 ·obtain⟨M,m1,m2,m3⟩:=rank_none hs h hn hr hq h0
  rw[m3]at e;rw[m1,ob,m2,ob,←wA e]; rfl
 ·obtain⟨m,rfl⟩:∃m,n=m+1:=⟨n - 1,by omega⟩
  obtain⟨M,E,m1,m2,m3⟩:=rank_same hs h (m:=m) hn hr hq (by omega);rw[m3]at e;rw[m1,ob,m2,ob,←wA e]
theorem dr_none{x:qc}{r n q c:Int}(h:F166 x r n q=some c)(hc:c≠0):F152 x r n q=some ⟨0,c⟩:=by
 unfold F152;rw[h,ob,if_neg hc]
theorem dr_fineS{x:qc}(hs:qB x)(h:qv x){n:Nat}(hn:n < x.Levels.length){r q:Int}(hr:0≤r∧r≤8)(hq:0≤q∧q≤5):F223 x r (n:Int) q=some ⟨pgR x r n q,0⟩:=by
 unfold F223;rw[(jS hs h hn hr hq).2,ob,if_pos rfl,page_rank_all hs h hn hr hq,ob]
theorem dr_noneS{x:qc}{r n q c:Int}(h:F247 x r n q=some c)(hc:c≠0):F223 x r n q=some ⟨0,c⟩:=by
 unfold F223;rw[h,ob,if_neg hc]
theorem ln_fine{x:qc}(hs:qB x)(h:qv x){n:Nat}(hn:n < x.Levels.length){q:Nat}(hq:q < 6):F438 x (n:Int) (q:Int)=some ⟨limN x n q,0⟩:=by
 unfold F438;rw[(jS hs h hn (r:=0) (q:=(q:Int)) (by omega) (by omega)).1,ob,if_pos rfl,lim_eq hs h hn hq,ob]
theorem ln_fineS{x:qc}(hs:qB x)(h:qv x){n:Nat}(hn:n < x.Levels.length){q:Nat}(hq:q < 6):F439 x (n:Int) (q:Int)=some ⟨limN x n q,0⟩:=by
 obtain⟨Z,B,W, -, -, -,w1, -,w2,w3⟩:=held_eq hs h hn (q:=(q:Int)) (by omega);obtain⟨Z',B',W', -, -, -,y1, -,y2,y3⟩:=held_eq hs h hn (q:=(q:Int) - 1) (by omega);unfold F439 limN;rw[(jS hs h hn (r:=0) (q:=(q:Int)) (by omega) (by omega)).2,ob,if_pos rfl,w1,ob,qk (by omega) (by omega),ob,y1,ob,qk (by omega) (by omega),ob,w3,y3]
theorem ln_none{x:qc}{n q c:Int}(h:F166 x 0 n q=some c)(hc:c≠0):F438 x n q=some ⟨0,c⟩:=by
 unfold F438;rw[h,ob,if_neg hc]
theorem ln_noneS{x:qc}{n q c:Int}(h:F247 x 0 n q=some c)(hc:c≠0):F439 x n q=some ⟨0,c⟩:=by
 unfold F439;rw[h,ob,if_neg hc]
theorem lim_rng{x:qc}(hs:qB x)(h:qv x){n:Nat}(hn:n < x.Levels.length){q:Nat}(hq:q < 6): -8≤limN x n q∧limN x n q≤8:=by
 obtain⟨Z,B,W, -, -, -,w1, -,w2,w3⟩:=held_eq hs h hn (q:=(q:Int)) (by omega);obtain⟨Z',B',W', -, -, -,y1, -,y2,y3⟩:=held_eq hs h hn (q:=(q:Int) - 1) (by omega);unfold limN; omega
theorem sumI_le{f:Nat→Int}{b:Nat}:∀ {n:Nat},(∀i,i < n→ -(b:Int)≤f i∧f i≤b)→ -((n*b:Nat):Int)≤sumI f n∧sumI f n≤((n*b:Nat):Int)
 |0,_=> by simp[sumI]
 |n+1,h=> by
  have a:=sumI_le (n:=n) fun i hi=> h i (by omega);have c:=h n (by omega);simp only[sumI,Nat.add_mul,Nat.one_mul];omega
theorem row_sum{g:Nat→Int}(h:∀q,q < 6→ -1000≤g q∧g q≤1000):F150 ((List.range 6).map g)=some (sumI g 6):=by
 rw[F150_eq (by simp) (fun y hy=> by
  obtain⟨i,hi,rfl⟩:=wJ.1 hy;exact h i (vD.1 hi))]
 refine congrArg some ?_;rw[vS,List.length_range];exact zo fun i hi=> by rw[nth_mapg (by simpa using hi),List.getElem_range]
theorem pt_fine{x:qc}(hs:qB x)(h:qv x){r:Int}(hr:0≤r∧r≤8):F148 x r=some ⟨tab6 x.Levels.length (fun n q=> pgN x r n (q:Int)),0⟩:=by
 have hl:=h.ll;have hdl:=h.vc.dl;have pz:F166 x r 0 0=some 0:=(jS hs h (n:=0) (q:=0) (by omega) hr (by simp)).1;unfold F148;rw[pz,ob,if_pos rfl,table_eq h (g:=fun n q=> pgN x r n (q:Int)) (fun n q hn hq=> by
  unfold F167;rw[page_num hs h hn (by omega) (by omega),ob]),ob]
theorem F160_same{l:List (List Int)}(h:l.length≤1000)(h2:∀r∈l,r.length≤1000):F160 l l=some true:=by
 unfold F160;rw[if_pos rfl,eq_loop' (by omega) (fun i hi=> by
  unfold F160_1_B;rw[qp hi [],ob,ob,F156_same (h2 _ (qT hi [])),ob,if_pos rfl]) fun i=> rfl,ob]
theorem tab6_small{L:Nat}(hL:L≤1000)(g:Nat→Nat→Int):(tab6 L g).length≤1000∧∀r∈tab6 L g,r.length≤1000:=
 ⟨by rw[tab6_len]; exact hL,fun r hr=> by rw[tab6_rows r hr]; omega⟩
theorem hom_one{x:qc}(hs:qB x)(h:qv x){n:Nat}(hn:n < x.Levels.length):F168 x.Complex (n:Int)=some (sumI (fun q=> limN x n q) 6):=by
 obtain⟨K,B, -,k2, -,b2,e⟩:=lim_total hs h hn;have r:=sumI_le (f:=fun q=> limN x n q) (b:=8) (n:=6) fun i hi=> lim_rng hs h hn hi;unfold F168;rw[k2,ob,b2,ob,qk (by omega) (by omega),ob,e]
theorem hom_all{x:qc}(hs:qB x)(h:qv x):F149 x.Complex=some ⟨(List.range x.Levels.length).map fun n=> sumI (fun q=> limN x n q) 6,0⟩:=by
 have hll:=h.ll;have hdl:=h.vc.dl;obtain⟨b,e1,e2⟩:=F42_tells hs.c;have hb:b=true:=e2.2 h.vc;unfold F149;rw[e1,hb,ob,if_pos rfl,←hll,jF (n:=x.Levels.length) (fun(n:Nat)=>[sumI (fun q=> limN x n q) 6]) (by omega) (fun n=> by simp) (by
  intro n s hn hsl;unfold F149_1_B;rw[hom_one hs h hn,ob,qH (by simp; omega) (by simp; omega),ob]) (by intro i s; rfl),ob,ju]
theorem remI_two(n:Nat):remI (n:Int) 2=some ((n% 2:Nat):Int):=by
 unfold remI;rw[if_neg (by decide)]; rfl
theorem euler_fine{x:qc}(hs:qB x)(h:qv x):F400 x.Complex=some ⟨sumI (fun n=> sgk n*(dm x n:Int)) x.Levels.length,0⟩:=by
 have hll:=h.ll;have hdl:=h.vc.dl;obtain⟨b,e1,e2⟩:=F42_tells hs.c;have hb:b=true:=e2.2 h.vc;have hr:∀i,i < x.Levels.length→ -(8:Nat)≤sgk i*(dm x i:Int)∧sgk i*(dm x i:Int)≤(8:Nat):=fun i hi=> by
  have hd:=zx h hi;unfold sgk;split <;> omega
 obtain⟨t,g1,g2⟩:=qz (B:=F400_1_B x.Complex) (D:=F400_1_D x.Complex) x.Levels.length rfl (by omega) (fun n s=> s=sumI (fun n=> sgk n*(dm x n:Int)) n) (fun s=> s=sumI (fun n=> sgk n*(dm x n:Int)) x.Levels.length) (s:=0) rfl (by
  rintro n _ hn rfl;left;have hd:=zx h hn;have a:=sumI_le (n:=n) (b:=8) fun i hi=> hr i (by omega);have c:=hr n hn;unfold F400_1_B;rw[qp (show n < x.Complex.Dims.length by omega) 0,ob,hd.1,remI_two,ob,qk (by omega) (by omega),ob,qk (by omega) (by omega),ob];have e:(dm x n:Int)*(1 - ((n% 2:Nat):Int)*2)=sgk n*(dm x n:Int):=by
   unfold sgk;split
   ·rename_i q; rw[q]; omega
   ·rename_i q; rw[show n% 2=1 by omega]; omega
  rw[e,qk (by omega) (by omega),ob,qk (by omega) (by omega),ob];exact⟨_,rfl,rfl⟩) (by
  rintro _ rfl;exact⟨_,rfl,rfl⟩)
 unfold F400;rw[e1,hb,ob,if_pos rfl,←hll,g1,ob,g2]
theorem pn_draw{code:List U8}(h:CodeOK code):∃x r n q,F434 code=some ⟨x,r,n,q⟩∧LooseF x∧(-4611686018427387904≤r∧r≤4611686018427387904)∧(0≤n∧n≤100)∧(0≤q∧q≤100):=by
 obtain⟨x,r,n,q,e,h1⟩:=with_ok h;unfold F434;rw[e,ob];exact⟨x,r,n,q,rfl,h1⟩
theorem pt_draw{code:List U8}(h:CodeOK code):∃x r,F436 code=some ⟨x,r⟩∧LooseF x∧(-4611686018427387904≤r∧r≤4611686018427387904):=by
 obtain⟨x,r,n,q,e,h1,h2,h3⟩:=with_ok h;unfold F436;rw[e,ob];exact⟨x,r,rfl,h1,h2⟩
theorem ln_draw{code:List U8}(h:CodeOK code):∃x n q,F437 code=some ⟨x,n,q⟩∧LooseF x∧(0≤n∧n≤100)∧(0≤q∧q≤100):=by
 obtain⟨x,r,n,q,e,h1,h2,h3⟩:=with_ok h;unfold F437;rw[e,ob];exact⟨x,n,q,rfl,h1,h3⟩
theorem num_part{x:qc}(hx:LooseF x){r n q c w k:Int}(c1:F166 x r n q=some c)(c3:c=0→qv x∧(0≤r∧r≤8)∧(0≤n∧n < x.Levels.length)∧0≤q∧q≤5)(hw:F151 x r n q=some ⟨w,c⟩)(hk:F152 x r n q=some ⟨k,c⟩)(h0:c≠0→w=0∧k=0):
  F455_92 x.Complex.Prime x.Complex.Dims x.Complex.Maps x.Levels r n q w c k c=some true:=by
 have hs:=hx.small;unfold F455_92;by_cases hc:c=0
 ·obtain⟨hv,hr,⟨hn0,hn1⟩,hq⟩:=c3 hc
  obtain⟨m,rfl⟩:∃m:Nat,n=m:=⟨n.toNat,by omega⟩;have hm:m < x.Levels.length:=by omega
  have hxl:=hx.l;have e1:=pn_fine hs hv hm hr hq;have e2:=dr_fine hs hv hm hr hq;rw[hw]at e1; rw[hk]at e2;injection e1 with e1; injection e2 with e2
  injection e1 with e1 _; injection e2 with e2 _
  subst e1; subst e2;rw[if_pos hc];by_cases c7:7 < r
  ·rw[if_pos c7]
  have e3:=pn_fine hs hv hm (r:=r+1) (q:=q) (by omega) hq;have a1:=pgN_rng hs hv hm (r:=r) (q:=q) (by omega) (by omega);have a2:=pgR_rng hs hv hm (r:=r) (q:=q) (by omega) (by omega);have key:=page_next (x:=x) (r:=r) (n:=m) (q:=q);rw[if_neg c7,qk (by omega) (by omega),ob];have e3':F151 ⟨⟨x.Complex.Prime,x.Complex.Dims,x.Complex.Maps⟩,x.Levels⟩ (r+1) (m:Int) q=_:=e3;rw[e3',ob,qk (by omega) (by omega),ob];have fin:∀z:Int,z=pgR x r (m+1) (q+r)→ -16≤z→z≤16→F455_93 (pgN x r m q) (pgR x r m q) c (pgN x (r+1) m q) 0 z=some true:=fun z hz z1 z2=> by
   unfold F455_93;rw[if_pos rfl,if_pos hc,qk (by omega) (by omega),ob,qk (by omega) (by omega),ob,decide_eq_true (by omega)]
  by_cases cn:m+1 < x.Levels.length
  ·rw[if_pos (by omega),qk (by omega) (by omega),ob]
   by_cases cq:q+r≤5
   ·have e4:=dr_fine hs hv cn hr (q:=q+r) (by omega)
    have e4':F152 ⟨⟨x.Complex.Prime,x.Complex.Dims,x.Complex.Maps⟩,x.Levels⟩ r ((m:Int)+1) (q+r)=_:=e4;have a3:=pgR_rng hs hv cn (r:=r) (q:=q+r) (by omega) (by omega);rw[if_pos cq,e4',ob,if_pos rfl];exact fin _ rfl a3.1 a3.2
   ·rw[if_neg cq]
    exact fin 0 (pgR_high hs hv cn (by omega) (by omega) (by omega)).symm (by omega) (by omega)
  ·rw[if_neg (by omega)]
   have:m+1=x.Levels.length:=by omega
   exact fin 0 (by rw[this]; exact(pgR_top hs hv (by omega) (by omega)).symm) (by omega) (by omega)
 ·obtain⟨rfl,rfl⟩:=h0 hc
  rw[if_neg hc,if_pos rfl,decide_eq_true rfl]
theorem lim_part{x y:qc}(hx:LooseF x){r n q c w k:Int}(hN:F455_92 x.Complex.Prime x.Complex.Dims x.Complex.Maps x.Levels r n q w c k c=some true)(hy:LooseF y){m l d:Int}(d1:F166 y 0 m l=some d)(d3:d=0→qv y∧(0≤(0:Int)∧(0:Int)≤8)∧(0≤m∧m < y.Levels.length)∧0≤l∧l≤5):
  F455_91 x.Complex.Prime x.Complex.Dims x.Complex.Maps x.Levels r n q w c k c y.Complex.Prime y.Complex.Dims y.Complex.Maps y.Levels m d=some true:=by
 have hs:=hy.small;unfold F455_91;by_cases hd:d=0
 ·obtain⟨hv, -,⟨hn0,hn1⟩, -⟩:=d3 hd
  obtain⟨n',rfl⟩:∃n':Nat,m=n':=⟨m.toNat,by omega⟩;have hm:n' < y.Levels.length:=by omega
  have e1:F440 ⟨y.Complex.Prime,y.Complex.Dims,y.Complex.Maps⟩=some ⟨(List.range y.Levels.length).map fun n=> sumI (fun q=> limN y n q) 6,true⟩:=by
   unfold F440;have e:F149 ⟨y.Complex.Prime,y.Complex.Dims,y.Complex.Maps⟩=_:=hom_all hs hv;rw[e,ob]; rfl
  rw[if_pos hd,e1,ob];obtain⟨t,g1,g2⟩:=qX (S:=F455_2_S x.Complex.Prime x.Complex.Dims x.Complex.Maps x.Levels r n q w c k c y.Complex.Prime y.Complex.Dims y.Complex.Maps y.Levels (n':Int) ⟨(List.range y.Levels.length).map fun n=> sumI (fun q=> limN y n q) 6,true⟩) (fun s=>(6 - s.2).toNat) (fun s=>∃i:Nat,i≤6∧s=(sumI (fun q=> limN y n' q) i,(i:Int))) (fun t=> t= .inl (sumI (fun q=> limN y n' q) 6)) (s:=(0,0)) ⟨0,by omega,rfl⟩ (by
   rintro _ ⟨i,hi,rfl⟩;unfold F455_2_S;dsimp only;by_cases ci:i < 6
   ·left
    have e:F438 ⟨⟨y.Complex.Prime,y.Complex.Dims,y.Complex.Maps⟩,y.Levels⟩ (n':Int) (i:Int)=_:=ln_fine hs hv hm ci;have a:=sumI_le (f:=fun q=> limN y n' q) (b:=8) (n:=i) fun j hj=> lim_rng hs hv hm (by omega);have b:=lim_rng hs hv hm ci;rw[if_pos (by omega),e,ob];dsimp only;rw[if_pos rfl,qk (by omega) (by omega),ob,qk (by omega) (by omega),ob];exact⟨_,rfl,⟨i+1,by omega,rfl⟩,by simp only; omega⟩
   ·right
    rw[if_neg (by omega)];exact⟨_,rfl,by rw[show i=6 by omega]⟩)
  rw[g1,ob,g2];dsimp only;rw[if_pos rfl,qp (by simpa using hm) 0,ob,if_pos (by rw[getD_mapr hm])];exact hN
 ·rw[if_neg hd]; exact hN
theorem law70{code:List U8}(hl:code.length≤9223372036854775807)(hb:∀b∈code,0≤b.val∧b.val≤255):F455 code=some true:=by
 unfold F455 F140;rw[ob];by_cases cl:4096 < (code.length:Int)
 ·rw[if_pos (by simpa using cl)]
 rw[if_neg (by simpa using cl)];have h:CodeOK code:=⟨by omega,hb⟩;obtain⟨x,r,n,q,e1,hx,hr,hn,hq⟩:=pn_draw h;have hs:=hx.small;obtain⟨c,c1,c2,c3⟩:=page_code hs r n q;have P:∃w k,F151 x r n q=some ⟨w,c⟩∧F435 x r n q=some ⟨w,c⟩∧F152 x r n q=some ⟨k,c⟩∧F223 x r n q=some ⟨k,c⟩∧(c≠0→w=0∧k=0):=by
  by_cases hc:c=0
  ·obtain⟨hv,hr',⟨hn0,hn1⟩,hq'⟩:=c3 hc
   obtain⟨m,rfl⟩:∃m:Nat,n=m:=⟨n.toNat,by omega⟩;rw[hc];exact⟨_,_,pn_fine hs hv (by omega) hr' hq',pn_fineS hs hv (by omega) hr' hq',dr_fine hs hv (by omega) hr' hq',dr_fineS hs hv (by omega) hr' hq',fun e=> absurd rfl e⟩
  ·exact⟨0,0,pn_none c1 hc,pn_noneS c2 hc,dr_none c1 hc,dr_noneS c2 hc,fun _=>⟨rfl,rfl⟩⟩
 obtain⟨w,k,p1,p2,p3,p4,p5⟩:=P;have hN:=num_part hx c1 c3 p1 p3 p5;rw[e1,ob];dsimp only;rw[p1,ob,p2,ob,if_pos rfl,if_pos rfl,p3,ob,p4,ob,if_pos rfl,if_pos rfl];obtain⟨y,t,e2,hy,ht⟩:=pt_draw h;have hsy:=hy.small;obtain⟨b,b1,b2,b3⟩:=page_code hsy t 0 0;obtain⟨T,T0,t1,t2, -, -⟩:=table_same hsy t;rw[e2,ob];dsimp only;rw[t2,ob,t1,ob,if_pos rfl];obtain⟨z,m,l,e3,hz,hm,hl'⟩:=ln_draw h;have hsz:=hz.small;obtain⟨d,d1,d2,d3⟩:=page_code hsz 0 m l;have hL:=lim_part hx hN hz d1 d3;have Q:∃v,F438 z m l=some ⟨v,d⟩∧F439 z m l=some ⟨v,d⟩:=by
  by_cases hd:d=0
  ·obtain⟨hv, -,⟨hn0,hn1⟩,hq'⟩:=d3 hd
   obtain⟨m',rfl⟩:∃m':Nat,m=m':=⟨m.toNat,by omega⟩;obtain⟨l',rfl⟩:∃l':Nat,l=l':=⟨l.toNat,by omega⟩;rw[hd];exact⟨_,ln_fine hsz hv (by omega) (by omega),ln_fineS hsz hv (by omega) (by omega)⟩
  ·exact⟨0,ln_none d1 hd,ln_noneS d2 hd⟩
 obtain⟨v,q1,q2⟩:=Q;have T160:F160 T T=some true:=by
  by_cases hb0:b=0
  ·obtain⟨hv,hr', -, -⟩:=b3 hb0
   have:=pt_fine hsy hv hr';rw[t2]at this;injection this with this; injection this with this _
   have hyl:=hy.l;rw[this];obtain⟨s1,s2⟩:=tab6_small (L:=y.Levels.length) (by omega) (fun n q=> pgN y t n (q:Int));exact F160_same s1 s2
  ·unfold F148 at t2
   rw[b1,ob,if_neg hb0]at t2;injection t2 with t2; injection t2 with t2 _
   rw[←t2];exact F160_same (by simp) (fun r hr=> nomatch hr)
 rw[T160,ob,if_pos rfl,e3,ob];dsimp only;rw[q1,ob,q2,ob,if_pos rfl,if_pos rfl];by_cases hT:T0=0
 ·have hb0:b=0:=by
   by_cases hb0:b=0
   ·exact hb0
   ·unfold F148 at t2
    rw[b1,ob,if_neg hb0]at t2;injection t2 with t2; injection t2 with _ t2
    exact absurd (t2.trans hT) hb0
  obtain⟨hv,hr', -, -⟩:=b3 hb0;have ept:=pt_fine hsy hv hr';rw[t2]at ept;injection ept with ept; injection ept with ept _
  have hyl:=hy.l;obtain⟨t',rfl⟩:∃t':Nat,t=t':=⟨t.toNat,by omega⟩;have rowr:∀n q:Nat,n < y.Levels.length→q < 6→ -(16:Nat)≤pgN y (t':Int) n (q:Int)∧pgN y (t':Int) n (q:Int)≤(16:Nat):=fun n q hn hq=> pgN_rng hsy hv hn (by omega) (by omega);have sumr:∀n:Nat,n < y.Levels.length→ -(96:Nat)≤sumI (fun q=> pgN y (t':Int) n (q:Int)) 6∧sumI (fun q=> pgN y (t':Int) n (q:Int)) 6≤(96:Nat):=fun n hn=> sumI_le (b:=16) (n:=6) fun q hq=> rowr n q hn hq;have sgr:∀n:Nat,n < y.Levels.length→ -(96:Nat)≤sgk n*sumI (fun q=> pgN y (t':Int) n (q:Int)) 6∧sgk n*sumI (fun q=> pgN y (t':Int) n (q:Int)) 6≤(96:Nat):=fun n hn=> by
   have:=sumr n hn;unfold sgk;split <;> omega
  have lp:forR 0 (T.length:Int) (F455_1_B ⟨x,r,n,q⟩ ⟨w,c⟩ ⟨k,c⟩ ⟨y,(t':Int)⟩ ⟨T,T0⟩ ⟨z,m,l⟩ ⟨v,d⟩ ⟨sumI (fun n=> sgk n*(dm y n:Int)) y.Levels.length,0⟩) (F455_1_D ⟨x,r,n,q⟩ ⟨w,c⟩ ⟨k,c⟩ ⟨y,(t':Int)⟩ ⟨T,T0⟩ ⟨z,m,l⟩ ⟨v,d⟩ ⟨sumI (fun n=> sgk n*(dm y n:Int)) y.Levels.length,0⟩) 0=some (euP y (t':Int)):=by
   rw[ept,tab6_len];obtain⟨u,g1,g2⟩:=qz (B:=F455_1_B ⟨x,r,n,q⟩ ⟨w,c⟩ ⟨k,c⟩ ⟨y,(t':Int)⟩ ⟨tab6 y.Levels.length (fun n q=> pgN y (t':Int) n (q:Int)),T0⟩ ⟨z,m,l⟩ ⟨v,d⟩ ⟨sumI (fun n=> sgk n*(dm y n:Int)) y.Levels.length,0⟩) (D:=F455_1_D ⟨x,r,n,q⟩ ⟨w,c⟩ ⟨k,c⟩ ⟨y,(t':Int)⟩ ⟨tab6 y.Levels.length (fun n q=> pgN y (t':Int) n (q:Int)),T0⟩ ⟨z,m,l⟩ ⟨v,d⟩ ⟨sumI (fun n=> sgk n*(dm y n:Int)) y.Levels.length,0⟩) y.Levels.length rfl (by omega) (fun n s=> s=sumI (fun n=> sgk n*sumI (fun q=> pgN y (t':Int) n (q:Int)) 6) n) (fun s=> s=euP y (t':Int)) (s:=0) rfl (by
    rintro i _ hi rfl;left;have a:=sumI_le (n:=i) (b:=96) fun j hj=> sgr j (by omega);have e5:=sumr i hi;unfold F455_1_B;rw[remI_two,ob];by_cases ce:i% 2=0
    ·have e:sgk i*sumI (fun q=> pgN y (t':Int) i (q:Int)) 6=sumI (fun q=> pgN y (t':Int) i (q:Int)) 6:=by unfold sgk; rw[if_pos ce]; omega
     rw[if_pos (by omega),tab6_row hi,ob,row_sum (fun q hq=> by have:=rowr i q hi hq; omega),ob,qk (by omega) (by omega),ob];exact⟨_,rfl,congrArg (fun z=> sumI (fun n=> sgk n*sumI (fun q=> pgN y (t':Int) n (q:Int)) 6) i+z) e.symm⟩
    ·have e:sgk i*sumI (fun q=> pgN y (t':Int) i (q:Int)) 6= -sumI (fun q=> pgN y (t':Int) i (q:Int)) 6:=by unfold sgk; rw[if_neg ce]; omega
     rw[if_neg (by omega),tab6_row hi,ob,row_sum (fun q hq=> by have:=rowr i q hi hq; omega),ob,qk (by omega) (by omega),ob];exact⟨_,rfl,(show _=sumI (fun n=> sgk n*sumI (fun q=> pgN y (t':Int) n (q:Int)) 6) i+sgk i*sumI (fun q=> pgN y (t':Int) i (q:Int)) 6 by rw[e]; omega)⟩) (by
    rintro _ rfl;exact⟨_,rfl,rfl⟩)
   rw[g1,g2]
  have eE:euP y (t':Int)=sumI (fun n=> sgk n*(dm y n:Int)) y.Levels.length:=by rw[eu_all hsy hv (by omega),eu_zero hsy hv]
  rw[if_pos hT,euler_fine hsy hv,ob,lp,ob,if_pos rfl,if_pos eE];exact hL
 ·rw[if_neg hT]
  exact hL
def LongU(a:U8):Prop:=0≤a.val∧a.val≤255
theorem law71{code:List U8}(h:LongL LongU code):F455 code=some true:=law70 h.1 h.2
end Rv
