/- The plain law: what the typed functions answer: part 2 -/
import Derived.Test.YtadnnniccgdigaaGreatPbq0
namespace Rv
set_option linter.unusedVariables false
set_option linter.unusedSimpArgs false
set_option maxRecDepth 10000
theorem forI_inv{σ τ:Type}{B:Int→σ→Option (σ⊕τ)}{D:Int→σ→Option τ}(Inv:Nat→σ→Prop)(Q:τ→Prop)(n:Nat):
  ∀ (k i:Nat) (s:σ),i+k=n→Inv i s→(∀i s,i < n→Inv i s→(∃s',B i s=some (.inl s')∧Inv (i+1) s')∨∃t,B i s=some (.inr t)∧Q t)→(∀s,Inv n s→∃t,D n s=some t∧Q t)→∃t,forI B D k i s=some t∧Q t:=by
 intro k;induction k with
 |zero=>
  intro i s hk hI hb hd;have:i=n:=by omega
  subst this;exact hd s hI
 |succ k ih=>
  intro i s hk hI hb hd;simp only[forI];rcases hb i s (by omega) hI with⟨s',h1,h2⟩|⟨t,h1,h2⟩
  ·rw[h1]
   have:=ih (i+1) s' (by omega) h2 hb hd;simpa using this
  ·rw[h1]; exact⟨t,rfl,h2⟩
theorem qx{σ τ:Type}{B:Int→σ→Option (σ⊕τ)}{D:Int→σ→Option τ}{hi:Int}(n:Nat)(hn:hi=n)(hs:n < 4611686018427387904)(Inv:Nat→σ→Prop)(Q:τ→Prop){s:σ}(h0:Inv 0 s)
  (hb:∀ (i:Nat) s,i < n→Inv i s→(∃s',B i s=some (.inl s')∧Inv (i+1) s')∨∃t,B i s=some (.inr t)∧Q t) (hd:∀s,Inv n s→∃t,D n s=some t∧Q t):∃t,forR 0 hi B D s=some t∧Q t:=by
 subst hn;unfold forR;rw[if_pos (by omega)];have e:((n:Int) - 0).toNat=n:=by omega
 rw[e];exact forI_inv Inv Q n n 0 s (by omega) h0 hb hd
theorem forR_from{σ τ:Type}{B:Int→σ→Option (σ⊕τ)}{D:Int→σ→Option τ}{lo hi:Int}(l n:Nat)(hl:lo=l)(hn:hi=n)(hln:l≤n)(hs:n < 4611686018427387904)(Inv:Nat→σ→Prop)(Q:τ→Prop){s:σ}(h0:Inv l s)
  (hb:∀ (i:Nat) s,i < n→Inv i s→(∃s',B i s=some (.inl s')∧Inv (i+1) s')∨∃t,B i s=some (.inr t)∧Q t) (hd:∀s,Inv n s→∃t,D n s=some t∧Q t):∃t,forR lo hi B D s=some t∧Q t:=by
 subst hn; subst hl;unfold forR;rw[if_pos (by omega)];have e:((n:Int) - (l:Int)).toNat=n - l:=by omega
 rw[e];exact forI_inv Inv Q n (n - l) l s (by omega) h0 hb hd
theorem qW{σ τ:Type}{S:σ→Option (σ⊕τ)}(μ:σ→Nat)(Inv:σ→Prop)(Q:τ→Prop){s:σ}(h0:Inv s)
  (hb:∀s,Inv s→(∃s',S s=some (.inl s')∧Inv s'∧μ s' < μ s)∨∃t,S s=some (.inr t)∧Q t):∃t,qV S s=some t∧Q t:=by
 suffices∀k s,μ s≤k→Inv s→∃t,qV S s=some t∧Q t from this _ s (wD _) h0
 intro k;induction k with
 |zero=>
  intro s hk hI;rcases hb s hI with⟨s',h1,h2,h3⟩|⟨t,h1,h2⟩
  ·omega
  ·exact⟨t,loopW_eq.2 (.inr h1),h2⟩
 |succ k ih=>
  intro s hk hI;rcases hb s hI with⟨s',h1,h2,h3⟩|⟨t,h1,h2⟩
  ·obtain⟨t,h4,h5⟩:=ih s' (by omega) h2
   exact⟨t,loopW_eq.2 (.inl ⟨s',h1,h4⟩),h5⟩
  ·exact⟨t,loopW_eq.2 (.inr h1),h2⟩
theorem qm{α:Type}{l:List α}{i:Nat}(h:i < l.length):getI l (i:Int)=some l[i]:=by
 unfold getI;rw[if_pos (by omega)];simp[h]
theorem qn{α:Type}{l:List α}{i:Nat}(h:i < l.length)(d:α):getI l (i:Int)=some (l.getD i d):=by
 rw[qm h]; simp[h]
theorem qo{n:Int}(h0: -9223372036854775808≤n)(h1:n < 9223372036854775808):chk n=some n:=by
 unfold chk; rw[if_pos ⟨h0,h1⟩]
theorem zh{α:Type}{l:List α}{i:Nat}(h:i < l.length)(y:α):setI l (i:Int) y=some (l.set i y):=by
 unfold setI;rw[if_pos (by omega),vA]
theorem xx{a b:Int}(h:b≠0):remI a b=some (a.tmod b):=by unfold remI; rw[if_neg h]
theorem mkL_ok{α:Type}{b:Nat}{n:Int}{z:α}(k:Nat)(hn:n=k)(h:k*b≤1099511627776)(h2:k≤1099511627776):mkL b n z=some (List.replicate k z):=by
 subst hn;unfold mkL;rw[if_pos ⟨by omega,by omega,by omega⟩,vA]
theorem qH{α:Type}{b:Nat}{l l':List α}(h:(l.length+l'.length)*b≤1099511627776)(h2:l.length+l'.length≤1099511627776):app b l l'=some (l++l'):=by
 unfold app; rw[if_pos ⟨h,h2⟩]
def jT(o:Option Bool)(P:Prop):Prop:=∃b,o=some b∧(b=true↔P)
theorem jT.of_true{o:Option Bool}{P:Prop}(h:o=some true)(p:P):jT o P:=⟨true,h,by simp[p]⟩
theorem jT.of_false{o:Option Bool}{P:Prop}(h:o=some false)(p:¬P):jT o P:=⟨false,h,by simp[p]⟩
theorem jT.iff{o:Option Bool}{P Q:Prop}(h:jT o P)(e:P↔Q):jT o Q:=by
 obtain⟨b,h1,h2⟩:=h; exact⟨b,h1,h2.trans e⟩
theorem jT.same{o o':Option Bool}{P:Prop}(h:jT o P)(h':jT o' P):∃b,o=some b∧o'=some b∧(b=true↔P):=by
 obtain⟨b,h1,h2⟩:=h;obtain⟨b',h3,h4⟩:=h';have:b=b':=by rw[yV]; exact h2.trans h4.symm
 exact⟨b,h1,by rw[this]; exact h3,h2⟩
theorem jT.case{o:Option Bool}{P:Prop}(h:jT o P):(o=some true∧P)∨(o=some false∧¬P):=by
 obtain⟨b,h1,h2⟩:=h;cases b with
 |true=> exact .inl ⟨h1,h2.1 rfl⟩
 |false=> exact .inr ⟨h1,fun p=> by have:=h2.2 p; cases this⟩
def IsP(p:Int):Prop:=p=2∨p=3∨p=5∨p=7
theorem IsP.range{p:Int}(h:IsP p):2≤p∧p≤7:=by unfold IsP at h; omega
def RowOK(p w:Int)(row:List Int):Prop:=(row.length:Int)=w∧∀x∈row,0≤x∧x < p
def TableOK(p c w:Int)(m:List (List Int)):Prop:=(m.length:Int)=c∧∀row∈m,RowOK p w row
theorem F54_eq(n lo hi:Int):F54 n lo hi=some (decide (lo≤n∧n≤hi)):=by
 unfold F54; by_cases h:lo≤n <;> simp[h]
theorem jQ(n lo hi:Int):F56 n lo hi=some (decide (lo≤n∧n≤hi)):=by
 unfold F56; by_cases h:lo≤n <;> simp[h]
theorem F78_tells(p:Int):jT (F78 p) (IsP p):=by
 unfold F78 IsP;split
 ·exact .of_true rfl (by omega)
 split
 ·exact .of_true rfl (by omega)
 split
 ·exact .of_true rfl (by omega)
 ·exact⟨_,rfl,by simp; omega⟩
theorem F67_tells(p:Int):jT (F67 p) (IsP p):=by
 unfold F67 IsP;split
 ·exact .of_true rfl (by omega)
 split
 ·exact .of_true rfl (by omega)
 split
 ·exact .of_true rfl (by omega)
 ·exact⟨_,rfl,by simp; omega⟩
theorem F79_2{p w:Int}{m:List (List Int)}(hp:2≤p∧p≤7){i:Nat}(hi:i < m.length)(hs:m[i].length≤1099511627776):
  ∃t,qV (F79_2_S p m w i) 0=some t∧((t= .inl ()∧∀x∈m[i],0≤x∧x < p)∨(t= .inr false∧¬∀x∈m[i],0≤x∧x < p)):=by
 refine qW (fun j:Int=>(m[i].length - j).toNat) (fun j=>∃n:Nat,j=n∧n≤m[i].length∧∀k (hk:k < n) (h2:k < m[i].length),0≤m[i][k]∧m[i][k] < p) _ ⟨0,rfl,by omega,fun k hk=> by omega⟩ ?_;rintro _ ⟨n,rfl,hn,hall⟩;unfold F79_2_S;simp only[qm hi,ob];by_cases hlt:(n:Int) < m[i].length
 ·have hnl:n < m[i].length:=by omega
  simp only[if_pos hlt,qm hnl,ob,qo (show(-9223372036854775808:Int)≤p - 1 by omega) (show p - 1 < 9223372036854775808 by omega),F54_eq];by_cases hx:0≤m[i][n]∧m[i][n]≤p - 1
  ·left
   refine⟨n+1,?_,⟨n+1,rfl,hnl,fun k hk h2=>?_⟩,by omega⟩
   ·simp only[hx,and_self,decide_true,if_true,qo (show(-9223372036854775808:Int)≤(n:Int)+1 by omega) (show(n:Int)+1 < 9223372036854775808 by omega),ob]
   ·by_cases e:k=n
    ·subst e; omega
    ·exact hall k (by omega) h2
  ·right
   refine⟨.inr false,?_,.inr ⟨rfl,fun ha=> hx ?_⟩⟩
   ·simp[hx]
   ·have:=ha _ (wB hnl); omega
 ·right
  refine⟨.inl (),by simp only[if_neg hlt],.inl ⟨rfl,fun x hx=>?_⟩⟩;obtain⟨k,hk,rfl⟩:=wN hx;exact hall k (by omega) hk
theorem F79_tells{p c w:Int}{m:List (List Int)}(hp:2≤p∧p≤7)(hm:m.length≤1099511627776)(hs:∀r∈m,r.length≤1099511627776):jT (F79 p m c w) (TableOK p c w m):=by
 unfold F79;by_cases hc:(m.length:Int)=c
 case neg=> rw[if_neg hc]; exact .of_false rfl fun h=> hc h.1
 rw[if_pos hc];obtain⟨t,h1,h2⟩:=qx (B:=F79_1_B p m w) (D:=F79_1_D p m w) (hi:=m.length) m.length rfl (by omega) (fun i _=>∀k (hk:k < i) (h2:k < m.length),RowOK p w m[k]) (fun t=>(t= .inl ()∧∀r∈m,RowOK p w r)∨(t= .inr false∧¬∀r∈m,RowOK p w r)) (s:=()) (fun k hk=> by omega) (fun i _ hi hI=> by
  unfold F79_1_B;simp only[qm hi,ob];by_cases hw:(m[i].length:Int)=w
  ·rw[if_pos hw]
   obtain⟨t,h1,h2⟩:=F79_2 (w:=w) hp hi (hs _ (wB hi));rw[h1];rcases h2 with⟨rfl,h2⟩|⟨rfl,h2⟩
   ·left
    refine⟨(),rfl,fun k hk h3=>?_⟩;by_cases e:k=i
    ·subst e; exact⟨hw,h2⟩
    ·exact hI k (by omega) h3
   ·right
    exact⟨_,rfl,.inr ⟨rfl,fun ha=> h2 (ha _ (wB hi)).2⟩⟩
  ·rw[if_neg hw]
   right;exact⟨_,rfl,.inr ⟨rfl,fun ha=> hw (ha _ (wB hi)).1⟩⟩) (fun _ hI=>⟨.inl (),rfl,.inl ⟨rfl,fun r hr=> by
    obtain⟨k,hk,rfl⟩:=wN hr;exact hI k hk hk⟩⟩)
 rw[h1];rcases h2 with⟨rfl,h2⟩|⟨rfl,h2⟩
 ·exact .of_true rfl ⟨hc,h2⟩
 ·exact .of_false rfl fun h=> h2 h.2
def addRow(p x:Int)(out row:List Int):List Int:=List.zipWith (fun o y=>(o+x*y).tmod p) out row
def linN(p:Int)(n:Nat)(v:List Int)(m:List (List Int)):Nat→List Int
 |0=> List.replicate n 0
 |i+1=> addRow p (v.getD i 0) (linN p n v m i) (m.getD i [])
def lin(p:Int)(n:Nat)(v:List Int)(m:List (List Int)):List Int:=linN p n v m v.length
structure LinOK (p:Int) (n:Nat) (v:List Int) (m:List (List Int)):Prop where
 hp:2≤p∧p≤7
 hv:∀x∈v,0≤x∧x < p
 hl:v.length≤m.length
 hr:∀l∈m,l.length=n∧∀y∈l,0≤y∧y < p
 hn:n≤1048576
 hvl:v.length≤1048576
theorem small_mul{p x y o:Int}(hp:2≤p∧p≤7)(hx:0≤x∧x < p)(hy:0≤y∧y < p)(ho:0≤o∧o < p):
  chk (x*y)=some (x*y)∧chk (o+x*y)=some (o+x*y)∧0≤(o+x*y).tmod p∧(o+x*y).tmod p < p:=by
 have h1:0≤x*y:=Int.mul_nonneg hx.1 hy.1;have h2:x*y≤6*6:=Int.mul_le_mul (by omega) (by omega) hy.1 (by omega);exact⟨qo (by omega) (by omega),qo (by omega) (by omega),Int.tmod_nonneg _ (by omega),Int.tmod_lt_of_pos _ (by omega)⟩
theorem jH{p x:Int}{out row:List Int}(h:row.length=out.length):(addRow p x out row).length=out.length:=by simp[addRow,h]
theorem addRow_ok{p x:Int}(hp:2≤p∧p≤7)(hx:0≤x∧x < p){out row:List Int}(ho:∀o∈out,0≤o∧o < p)(hy:∀y∈row,0≤y∧y < p):∀o∈addRow p x out row,0≤o∧o < p:=by
 intro o hm;unfold addRow at hm;obtain⟨i,hi,rfl⟩:=wN hm;simp at hi ⊢;exact(small_mul hp hx (hy _ (wB (by omega))) (ho _ (wB (by omega)))).2.2
theorem linN_ok{p:Int}{n:Nat}{v:List Int}{m:List (List Int)}(H:LinOK p n v m):∀i,i≤v.length→(linN p n v m i).length=n∧∀o∈linN p n v m i,0≤o∧o < p:=by
 intro i;induction i with
 |zero=> intro _; refine⟨by simp[linN],fun o ho=>?_⟩; simp[linN]at ho; obtain⟨_,rfl⟩:=ho; have:=H.hp; omega
 |succ i ih=>
  intro hi;obtain⟨h1,h2⟩:=ih (by omega);have e1:v.getD i 0=v[i]:=by simp[show i < v.length by omega]
  have hm:i < m.length:=by have:=H.hl; omega
  have e2:m.getD i []=m[i]:=by simp[hm]
  have hr:=H.hr _ (wB hm);simp only[linN,e1,e2];exact⟨by rw[jH (by rw[hr.1,h1]),h1],addRow_ok H.hp (H.hv _ (wB _)) h2 hr.2⟩
def upTo(p x:Int)(out row:List Int)(k:Nat):List Int:=(addRow p x out row).take k++out.drop k
theorem upTo_len{p x:Int}{out row:List Int}(h:row.length=out.length)(k:Nat)(hk:k≤out.length):(upTo p x out row k).length=out.length:=by
 simp[upTo,jH h]; omega
theorem upTo_at{p x:Int}{out row:List Int}(h:row.length=out.length){k:Nat}(hk:k < out.length)(h2:k < (upTo p x out row k).length):(upTo p x out row k)[k]=out[k]:=by
 have e:(upTo p x out row k)[k]? =some out[k]:=by
  unfold upTo;rw[List.getElem?_append_right (by simp[jH h]; omega)];simp[jH h,uE (Nat.le_of_lt hk),hk]
 rw[List.getElem?_eq_getElem h2]at e;exact wA e
theorem upTo_set{p x:Int}{out row:List Int}(h:row.length=out.length){k:Nat}(hk:k < out.length):
  (upTo p x out row k).set k ((out[k]+x*(row[k]'(by omega))).tmod p)=upTo p x out row (k+1):=by
 have hl:=jH (p:=p) (x:=x) h;unfold upTo;rw[List.set_append_right _ _ (by simp[hl]; omega),List.take_succ_eq_append_getElem (by omega:k < (addRow p x out row).length)];have e1:((addRow p x out row).take k).length=k:=by simp[hl]; omega
 rw[e1,uH];simp[addRow];rw[yS hk];rfl
theorem upTo_zero{p x:Int}{out row:List Int}:upTo p x out row 0=out:=by simp[upTo]
theorem upTo_all{p x:Int}{out row:List Int}(h:row.length=out.length):upTo p x out row out.length=addRow p x out row:=by
 have hl:=jH (p:=p) (x:=x) h;unfold upTo;rw[wQ (by omega),List.drop_of_length_le (by omega),vM]
theorem F80_eq{p:Int}{n:Nat}{v:List Int}{m:List (List Int)}(H:LinOK p n v m){w:Int}(hw:w=n):F80 p m v w=some (lin p n v m):=by
 have hn:=H.hn;have hvl:=H.hvl;have hlm:=H.hl;unfold F80;rw[mkL_ok n hw (by omega) (by omega),ob];obtain⟨t,h1,rfl⟩:=qx (B:=F80_1_B p m v) (D:=F80_1_D p m v) (hi:=v.length) v.length rfl (by omega) (fun i s=> s=linN p n v m i) (fun t=> t=lin p n v m) (s:=List.replicate n 0) rfl (fun i s hi hI=> by
  subst hI;left;obtain⟨q1,q2⟩:=linN_ok H i (by omega);have hm:i < m.length:=by omega
  obtain⟨r1,r2⟩:=H.hr _ (wB hm);have hx:=H.hv _ (wB hi);have e1:v.getD i 0=v[i]:=by simp[hi]
  have e2:m.getD i []=m[i]:=by simp[hm]
  refine⟨_,?_,rfl⟩;unfold F80_1_B;have hlen:m[i].length=(linN p n v m i).length:=by omega
  obtain⟨t,h1,rfl⟩:=qW (S:=F80_2_S p m v i) (fun s=>(n - s.2).toNat) (fun s=>∃k:Nat,k≤n∧s=(upTo p v[i] (linN p n v m i) m[i] k,(k:Int))) (fun t=> t=linN p n v m (i+1)) (s:=(linN p n v m i,0)) ⟨0,by omega,by rw[upTo_zero]; rfl⟩ (by
   rintro _ ⟨k,hk,rfl⟩;unfold F80_2_S;have hul:=upTo_len (p:=p) (x:=v[i]) hlen k (by omega);simp only;by_cases hlt:(k:Int) < (upTo p v[i] (linN p n v m i) m[i] k).length
   ·rw[if_pos hlt]
    have hk1:k < (upTo p v[i] (linN p n v m i) m[i] k).length:=by omega
    have hk2:k < (linN p n v m i).length:=by omega
    have hk3:k < m[i].length:=by omega
    obtain⟨s1,s2,s3,s4⟩:=small_mul H.hp hx (r2 _ (wB hk3)) (q2 _ (wB hk2));have hp0:p≠0:=by have:=H.hp; omega
    left;refine⟨(upTo p v[i] (linN p n v m i) m[i] (k+1),((k+1:Nat):Int)),?_,⟨k+1,by omega,rfl⟩,by simp only; omega⟩;simp only[qm hk1,upTo_at hlen hk2 hk1,qm hi,qm hm,qm hk3,ob,s1,s2,xx hp0,zh hk1,upTo_set hlen hk2,qo (show(-9223372036854775808:Int)≤(k:Int)+1 by omega) (show(k:Int)+1 < 9223372036854775808 by omega)];rfl
   ·rw[if_neg hlt]
    right;have hkn:k=(linN p n v m i).length:=by omega
    refine⟨_,rfl,?_⟩;rw[hkn,upTo_all hlen];simp only[linN,e1,e2])
  rw[h1];rfl) (fun s hI=>⟨_,rfl,hI⟩)
 rw[h1];rfl
theorem F119_2_eq{p:Int}{n:Nat}{v:List Int}{m:List (List Int)}(H:LinOK p n v m){i:Nat}(hi:i < v.length)(hm:i < m.length):
  forR 0 (m[i].length:Int) (F119_2_B p v m i v[i] m[i]) (F119_2_D p v m i v[i] m[i]) (linN p n v m i)=some (linN p n v m (i+1)):=by
 have hn:=H.hn;obtain⟨q1,q2⟩:=linN_ok H i (by omega);obtain⟨r1,r2⟩:=H.hr _ (wB hm);have hx:=H.hv _ (wB hi);have e1:v.getD i 0=v[i]:=by simp[hi]
 have e2:m.getD i []=m[i]:=by simp[hm]
 have hlen:m[i].length=(linN p n v m i).length:=by omega
 have hp0:p≠0:=by have:=H.hp; omega
 obtain⟨t,h1,rfl⟩:=qx (B:=F119_2_B p v m i v[i] m[i]) (D:=F119_2_D p v m i v[i] m[i]) (hi:=m[i].length) m[i].length rfl (by omega) (fun k s=> s=upTo p v[i] (linN p n v m i) m[i] k) (fun t=> t=linN p n v m (i+1)) (s:=linN p n v m i) upTo_zero.symm (by
  intro k s hk hI;subst hI;left;have hul:=upTo_len (p:=p) (x:=v[i]) hlen k (by omega);have hk1:k < (upTo p v[i] (linN p n v m i) m[i] k).length:=by omega
  have hk2:k < (linN p n v m i).length:=by omega
  obtain⟨s1,s2,s3,s4⟩:=small_mul H.hp hx (r2 _ (wB hk)) (q2 _ (wB hk2));refine⟨_,?_,rfl⟩;unfold F119_2_B;simp only[qm hk,qm hk1,upTo_at hlen hk2 hk1,ob,s1,s2,xx hp0,zh hk1,upTo_set hlen hk2]) (by
  intro s hI;refine⟨s,rfl,?_⟩;rw[hI,hlen,upTo_all hlen];simp only[linN,e1,e2])
 exact h1
theorem F119_1_eq{p:Int}{n:Nat}{v:List Int}{m:List (List Int)}(H:LinOK p n v m)(i:Nat)(hi:i < v.length):F119_1_B p v m (i:Int) (linN p n v m i)=some (.inl (linN p n v m (i+1))):=by
 have hlm:=H.hl;have hm:i < m.length:=by omega
 unfold F119_1_B;rw[qm hi,ob,qm hm,ob,F119_2_eq H hi hm,ob]
theorem F119_eq{p:Int}{n:Nat}{v:List Int}{m:List (List Int)}(H:LinOK p n v m){w:Int}(hw:w=n):F119 p w v m=some (lin p n v m):=by
 have hn:=H.hn;have hvl:=H.hvl;have hs:v.length < 4611686018427387904:=by omega
 unfold F119;rw[mkL_ok n hw (by omega) (by omega),ob];obtain⟨t,h1,rfl⟩:=qx (B:=F119_1_B p v m) (D:=F119_1_D p v m) (hi:=v.length) v.length rfl hs (fun i s=> s=linN p n v m i) (fun t=> t=lin p n v m) (s:=List.replicate n 0) rfl (by
  intro i s hi hI;subst hI;left;exact⟨_,F119_1_eq H i hi,rfl⟩) (fun s hI=>⟨s,by unfold F119_1_D; rfl,hI⟩)
 rw[h1,ob]
theorem F115_eq{l:List Int}{f:Int→Option Bool}(P:Int→Bool)(hl:l.length≤1099511627776)(hf:∀x∈l,f x=some (P x)):∃i:Int,F115 l f=some i∧(0≤i↔∃x∈l,P x=true):=by
 unfold F115;have hs:l.length < 4611686018427387904:=by omega
 obtain⟨t,h1,h2⟩:=qx (B:=xO l f) (D:=F115_1_D l f) (hi:=l.length) l.length rfl hs (fun i _=>∀k (hk:k < i) (h2:k < l.length),P l[k]=false) (fun t=>(t= .inl ()∧∀x∈l,P x=false)∨∃i:Nat,t= .inr (i:Int)∧∃x∈l,P x=true) (s:=()) (fun k hk=> by omega) (by
  intro i _ hi hI;unfold xO;rw[qm hi,ob,hf _ (wB hi),ob];cases hp:P l[i]with
  |true=> right; exact⟨_,rfl,.inr ⟨i,rfl,_,wB hi,hp⟩⟩
  |false=>
   left;refine⟨(),rfl,fun k hk h2=>?_⟩;by_cases e:k=i
   ·subst e; exact hp
   ·exact hI k (by omega) h2) (by
  intro _ hI;refine⟨.inl (),rfl,.inl ⟨rfl,fun x hx=>?_⟩⟩;obtain⟨k,hk,rfl⟩:=wN hx;exact hI k hk hk)
 rw[h1];rcases h2 with⟨rfl,h2⟩|⟨i,rfl,h2⟩
 ·exact⟨-1,rfl,⟨fun h=> by omega,fun⟨x,hx,hp⟩=> by rw[h2 x hx]at hp; cases hp⟩⟩
 ·exact⟨i,rfl,⟨fun _=> h2,fun _=> Int.natCast_nonneg i⟩⟩
theorem F82_eq{l:List Int}{f:Int→Option Bool}(P:Int→Bool)(hl:l.length≤1099511627776)(hf:∀x∈l,f x=some (P x)):F82 l f=some (l.any P):=by
 obtain⟨i,h1,h2⟩:=F115_eq P hl hf;unfold F82;rw[h1,ob];have:decide (0≤i)=l.any P:=by
  rw[yV];simp only[decide_eq_true_eq,vS];exact h2
 rw[this]
theorem F128_eq{l:List (List Int)}{f:List Int→Option Bool}(P:List Int→Bool)(hl:l.length≤1099511627776)(hf:∀x∈l,f x=some (P x)):∃i:Int,F128 l f=some i∧(0≤i↔∃x∈l,P x=true):=by
 unfold F128;have hs:l.length < 4611686018427387904:=by omega
 obtain⟨t,h1,h2⟩:=qx (B:=xM l f) (D:=F128_1_D l f) (hi:=l.length) l.length rfl hs (fun i _=>∀k (hk:k < i) (h2:k < l.length),P l[k]=false) (fun t=>(t= .inl ()∧∀x∈l,P x=false)∨∃i:Nat,t= .inr (i:Int)∧∃x∈l,P x=true) (s:=()) (fun k hk=> by omega) (by
  intro i _ hi hI;unfold xM;rw[qm hi,ob,hf _ (wB hi),ob];cases hp:P l[i]with
  |true=> right; exact⟨_,rfl,.inr ⟨i,rfl,_,wB hi,hp⟩⟩
  |false=>
   left;refine⟨(),rfl,fun k hk h2=>?_⟩;by_cases e:k=i
   ·subst e; exact hp
   ·exact hI k (by omega) h2) (by
  intro _ hI;refine⟨.inl (),rfl,.inl ⟨rfl,fun x hx=>?_⟩⟩;obtain⟨k,hk,rfl⟩:=wN hx;exact hI k hk hk)
 rw[h1];rcases h2 with⟨rfl,h2⟩|⟨i,rfl,h2⟩
 ·exact⟨-1,rfl,⟨fun h=> by omega,fun⟨x,hx,hp⟩=> by rw[h2 x hx]at hp; cases hp⟩⟩
 ·exact⟨i,rfl,⟨fun _=> h2,fun _=> Int.natCast_nonneg i⟩⟩
theorem F117_eq{l:List (List Int)}{f:List Int→Option Bool}(P:List Int→Bool)(hl:l.length≤1099511627776)(hf:∀x∈l,f x=some (P x)):F117 l f=some (l.any P):=by
 obtain⟨i,h1,h2⟩:=F128_eq P hl hf;unfold F117;rw[h1,ob];have:decide (0≤i)=l.any P:=by
  rw[yV];simp only[decide_eq_true_eq,vS];exact h2
 rw[this]
def rowB(p w:Int)(row:List Int):Bool:=decide ((row.length:Int)=w)&& row.all fun x=> decide (0≤x∧x < p)
theorem rowB_iff{p w:Int}{row:List Int}:rowB p w row=true↔RowOK p w row:=by
 unfold rowB RowOK;simp only[wO,decide_eq_true_eq,wS]
theorem F130_eq{p:Int}(hp:2≤p∧p≤7)(x:Int):F130 x p=some (!decide (0≤x∧x < p)):=by
 unfold F130;rw[qo (by omega) (by omega),ob,jQ,ob]
 congr 3
 exact propext ⟨fun h=>⟨h.1,by omega⟩,fun h=>⟨h.1,by omega⟩⟩
theorem F129_eq{p w:Int}(hp:2≤p∧p≤7){l:List Int}(hl:l.length≤1099511627776):F129 p w l=some (rowB p w l):=by
 unfold F129 rowB;by_cases h:(l.length:Int)=w
 ·rw[if_pos h,F82_eq (fun x=> !decide (0≤x∧x < p)) hl (fun x _=> F130_eq hp x),ob]
  simp[h,List.not_any_eq_all_not]
 ·rw[if_neg h]; simp[h]
theorem F116_eq{p w:Int}(hp:2≤p∧p≤7){l:List Int}(hl:l.length≤1099511627776):F116 l p w=some (!rowB p w l):=by
 unfold F116; rw[F129_eq hp hl,ob]
theorem F90_eq{p w:Int}(hp:2≤p∧p≤7){m:List (List Int)}(hm:m.length≤1099511627776)(hs:∀r∈m,r.length≤1099511627776):F90 p w m=some (m.all (rowB p w)):=by
 unfold F90;rw[F117_eq (fun r=> !rowB p w r) hm (fun r hr=> F116_eq hp (hs r hr)),ob];simp[List.not_any_eq_all_not]
theorem F90_tells{p w:Int}(hp:2≤p∧p≤7){m:List (List Int)}(hm:m.length≤1099511627776)(hs:∀r∈m,r.length≤1099511627776):jT (F90 p w m) (∀r∈m,RowOK p w r):=
 ⟨_,F90_eq hp hm hs,by simp only[wS,rowB_iff]⟩
theorem F92_tells{l:List Int}(hl:l.length≤1099511627776):jT (F92 l) (∀x∈l,x=0):=by
 unfold F92;have h:F82 l (fun x=> F118 x)=some (l.any fun x=> !decide (x=0)):=F82_eq _ hl (fun x _=> rfl);rw[h,ob];exact⟨_,rfl,by simp[List.not_any_eq_all_not]⟩
theorem F81_tells{l:List Int}(hl:l.length≤1099511627776):∃i,F81 l=some i∧(0≤i↔¬∀x∈l,x=0):=by
 unfold F81;have hs:l.length < 4611686018427387904:=by omega
 obtain⟨t,h1,h2⟩:=qx (B:=F81_1_B l) (D:=F81_1_D l) (hi:=l.length) l.length rfl hs (fun i _=>∀k (hk:k < i) (h2:k < l.length),l[k]=0) (fun t=>(t= .inl ()∧∀x∈l,x=0)∨∃i:Nat,t= .inr (i:Int)∧¬∀x∈l,x=0) (s:=()) (fun k hk=> by omega) (by
  intro i _ hi hI;unfold F81_1_B;rw[qm hi,ob];by_cases hp:l[i]=0
  ·rw[if_pos hp]
   left;refine⟨(),rfl,fun k hk h2=>?_⟩;by_cases e:k=i
   ·subst e; exact hp
   ·exact hI k (by omega) h2
  ·rw[if_neg hp]
   right;exact⟨_,rfl,.inr ⟨i,rfl,fun ha=> hp (ha _ (wB hi))⟩⟩) (by
  intro _ hI;refine⟨.inl (),rfl,.inl ⟨rfl,fun x hx=>?_⟩⟩;obtain⟨k,hk,rfl⟩:=wN hx;exact hI k hk hk)
 rw[h1];rcases h2 with⟨rfl,h2⟩|⟨i,rfl,h2⟩
 ·exact⟨-1,rfl,⟨fun h=> by omega,fun h=> absurd h2 h⟩⟩
 ·exact⟨i,rfl,⟨fun _=> h2,fun _=> Int.natCast_nonneg i⟩⟩
structure jD (x:qh):Prop where
 d:x.Dims.length≤1048576
 m:x.Maps.length≤1048576
 r:∀m∈x.Maps,m.length≤1048576∧∀l∈m,l.length≤1048576
structure ShapeC (x:qh):Prop where
 p:IsP x.Prime
 dl:1≤x.Dims.length∧x.Dims.length≤6
 ml:x.Maps.length+1=x.Dims.length
 dims:∀d∈x.Dims,0≤d∧d≤8
def jP(x:qh)(k:Nat):Prop:=TableOK x.Prime (x.Dims.getD (k+1) 0) (x.Dims.getD k 0) (x.Maps.getD k [])
def SqAt(x:qh)(k:Nat):Prop:=∀row∈x.Maps.getD k [],∀y∈lin x.Prime (x.Dims.getD (k - 1) 0).toNat row (x.Maps.getD (k - 1) []),y=0
structure ValidC (x:qh):Prop extends ShapeC x where
 tab:∀k,k < x.Maps.length→jP x k
 sq:∀k,0 < k→k < x.Maps.length→SqAt x k
theorem lin_len{p:Int}{n:Nat}{v:List Int}{m:List (List Int)}(H:LinOK p n v m):(lin p n v m).length=n:=(linN_ok H _ (wD _)).1
theorem linOK_of{x:qh}(hs:ShapeC x){k:Nat}(h1:0 < k)(h2:k < x.Maps.length)(t1:jP x (k - 1))(t2:jP x k){row:List Int}(hr:row∈x.Maps.getD k []):
  LinOK x.Prime (x.Dims.getD (k - 1) 0).toNat row (x.Maps.getD (k - 1) [])∧0≤x.Dims.getD (k - 1) 0∧x.Dims.getD (k - 1) 0≤8:=by
 have hd:∀j,j < x.Dims.length→0≤x.Dims.getD j 0∧x.Dims.getD j 0≤8:=fun j hj=> by
  have:=hs.dims _ (wB hj);simpa[hj]using this
 have hml:=hs.ml;have d1:=hd (k - 1) (by omega);have d2:=hd k (by omega);obtain⟨q1,q2⟩:=t2.2 row hr;refine⟨⟨hs.p.range,q2,?_,fun l hl=>?_,?_,?_⟩,d1⟩
 ·have:=t1.1
  have e:k - 1+1=k:=by omega
  rw[e]at this;omega
 ·obtain⟨r1,r2⟩:=t1.2 l hl
  exact⟨by omega,r2⟩
 ·omega
 ·omega
theorem F86_eq{x:qh}(h:x.Dims.length≤1048576):F86 x=some ((x.Dims.length:Int) - 1):=by
 unfold F86; rw[qo (by omega) (by omega),ob]
theorem mapsD{x:qh}{k:Nat}(h:k < x.Maps.length):x.Maps.getD k []=x.Maps[k]:=by simp[h]
theorem F39_3_eq{x:qh}(hs:ShapeC x){k:Nat}(h2:k < x.Maps.length)(t1:0 < k→jP x (k - 1))(t2:jP x k)(hsm:jD x):
  ∃t,qV (F39_3_S x (k:Int)) 0=some t∧((t= .inl ()∧(0 < k→SqAt x k))∨(t= .inr false∧0 < k∧¬SqAt x k)):=by
 have hml:=hs.ml;have hdl:=hs.dl;have hk:=(hsm.r _ (wB h2)).1;refine qW (fun j:Int=>(x.Maps[k].length - j).toNat) (fun j=>∃n:Nat,j=n∧n≤x.Maps[k].length∧(0 < k→∀i (hi:i < n) (h3:i < x.Maps[k].length),∀y∈lin x.Prime (x.Dims.getD (k - 1) 0).toNat x.Maps[k][i] (x.Maps.getD (k - 1) []),y=0)) _ ⟨0,rfl,by omega,fun _ i hi=> by omega⟩ ?_;rintro _ ⟨n,rfl,hn,hall⟩;unfold F39_3_S;rw[qm h2,ob];by_cases hlt:(n:Int) < x.Maps[k].length
 ·rw[if_pos hlt]
  have hnl:n < x.Maps[k].length:=by omega
  by_cases h0:0 < k
  ·rw[if_pos (by omega)]
   obtain⟨H,d0,d8⟩:=linOK_of hs h0 h2 (t1 h0) t2 (row:=x.Maps[k][n]) (by rw[mapsD h2]; exact wB hnl);have e1:((k:Int) - 1)=((k - 1:Nat):Int):=by omega
   rw[qo (by omega) (by omega),ob,e1,qn (show k - 1 < x.Maps.length by omega) [],ob,qm hnl,ob,qn (show k - 1 < x.Dims.length by omega) 0,ob,
    F80_eq H (by omega),ob]
   obtain⟨i,g1,g2⟩:=F81_tells (l:=lin x.Prime (x.Dims.getD (k - 1) 0).toNat x.Maps[k][n] (x.Maps.getD (k - 1) [])) (by rw[lin_len H]; omega);rw[g1,ob];by_cases hz:0≤i
   ·rw[if_pos hz]
    right;refine⟨_,rfl,.inr ⟨rfl,h0,fun ha=> g2.1 hz (ha _ (by rw[mapsD h2]; exact wB hnl))⟩⟩
   ·rw[if_neg hz]
    left;rw[qo (by omega) (by omega),ob];refine⟨_,rfl,⟨n+1,rfl,hnl,fun _ i hi h3=>?_⟩,by omega⟩;by_cases e:i=n
    ·subst e
     exact vQ fun hq=> hz (g2.2 hq)
    ·exact hall h0 i (by omega) h3
  ·rw[if_neg (by omega)]
   right;exact⟨_,rfl,.inl ⟨rfl,fun h=> absurd h h0⟩⟩
 ·rw[if_neg hlt]
  right;refine⟨_,rfl,.inl ⟨rfl,fun h0 row hr=>?_⟩⟩;rw[mapsD h2]at hr;obtain⟨i,hi,rfl⟩:=wN hr;exact hall h0 i (by omega) hi
theorem F39_2_eq{x:qh}(hs:ShapeC x)(hsm:jD x):
  ∃t,forR 0 (x.Maps.length:Int) (F39_2_B x) (F39_2_D x) ()=some t∧((t= .inl ()∧(∀k,k < x.Maps.length→jP x k)∧∀k,0 < k→k < x.Maps.length→SqAt x k)∨(t= .inr false∧¬((∀k,k < x.Maps.length→jP x k)∧∀k,0 < k→k < x.Maps.length→SqAt x k))):=by
 have hml:=hs.ml;have hm:=hsm.m;have hlen:x.Maps.length < 4611686018427387904:=by omega
 refine qx x.Maps.length rfl hlen (fun i _=>(∀k,k < i→jP x k)∧∀k,0 < k→k < i→SqAt x k) _ ⟨fun k hk=> by omega,fun k _ hk=> by omega⟩ ?_ ?_
 ·rintro i _ hi ⟨ht,hq⟩
  unfold F39_2_B;have e2:((i:Int)+1)=((i+1:Nat):Int):=by omega
  have hr:=hsm.r _ (wB hi);rw[qm hi,ob,e2,qn (show i+1 < x.Dims.length by omega) 0,ob,qn (show i < x.Dims.length by omega) 0,ob];have hT:=F79_tells (p:=x.Prime) (c:=x.Dims.getD (i+1) 0) (w:=x.Dims.getD i 0) (m:=x.Maps[i]) hs.p.range (by omega) (fun r h=> by have:=hr.2 r h; omega);rcases hT.case with⟨h1,h2⟩|⟨h1,h2⟩
  ·rw[h1,ob,if_pos rfl]
   have hti:jP x i:=by unfold jP; rw[mapsD hi]; exact h2
   obtain⟨t,g1,g2⟩:=F39_3_eq hs hi (fun h0=> ht _ (by omega)) hti hsm;rw[g1,ob];rcases g2 with⟨rfl,g2⟩|⟨rfl,g0,g2⟩
   ·left
    refine⟨(),rfl,fun k hk=>?_,fun k h0 hk=>?_⟩
    ·by_cases e:k=i
     ·subst e; exact hti
     ·exact ht k (by omega)
    ·by_cases e:k=i
     ·subst e; exact g2 h0
     ·exact hq k h0 (by omega)
   ·right
    exact⟨_,rfl,.inr ⟨rfl,fun ha=> g2 (ha.2 i g0 hi)⟩⟩
  ·rw[h1,ob,if_neg wE]
   right;refine⟨_,rfl,.inr ⟨rfl,fun ha=> h2 ?_⟩⟩;have:=ha.1 i hi;unfold jP at this;rw[mapsD hi]at this;exact this
 ·rintro _ ⟨ht,hq⟩
  exact⟨.inl (),rfl,.inl ⟨rfl,ht,hq⟩⟩
theorem F39_1_eq{x:qh}(hsm:jD x):∃t,forR 0 (x.Dims.length:Int) (F39_1_B x) (F39_1_D x) ()=some t∧((t= .inl ()∧∀d∈x.Dims,0≤d∧d≤8)∨(t= .inr false∧¬∀d∈x.Dims,0≤d∧d≤8)):=by
 have hm:=hsm.d;have hlen:x.Dims.length < 4611686018427387904:=by omega
 refine qx x.Dims.length rfl hlen (fun i _=>∀k (hk:k < i) (h2:k < x.Dims.length),0≤x.Dims[k]∧x.Dims[k]≤8) _ (fun k hk=> by omega) ?_ ?_
 ·rintro i _ hi hI
  unfold F39_1_B;rw[qm hi,ob,F54_eq,ob];by_cases h:0≤x.Dims[i]∧x.Dims[i]≤8
  ·rw[if_pos (by simpa using h)]
   left;refine⟨(),rfl,fun k hk h2=>?_⟩;by_cases e:k=i
   ·subst e; exact h
   ·exact hI k (by omega) h2
  ·rw[if_neg (by simpa using h)]
   right;exact⟨_,rfl,.inr ⟨rfl,fun ha=> h (ha _ (wB hi))⟩⟩
 ·rintro _ hI
  refine⟨.inl (),rfl,.inl ⟨rfl,fun d hd=>?_⟩⟩;obtain⟨k,hk,rfl⟩:=wN hd;exact hI k hk hk
theorem F39_tells{x:qh}(hsm:jD x):jT (F39 x) (ValidC x):=by
 have hd:=hsm.d;unfold F39;rcases(F78_tells x.Prime).case with⟨h1,hp⟩|⟨h1,hp⟩
 case inr=> rw[h1,ob,if_neg wE]; exact .of_false rfl fun h=> hp h.p
 rw[h1,ob,if_pos rfl];by_cases c1:(x.Dims.length:Int) < 1
 ·rw[if_pos c1]; exact .of_false rfl fun h=> by have:=h.dl; omega
 rw[if_neg c1];by_cases c2:6 < (x.Dims.length:Int)
 ·rw[if_pos c2]; exact .of_false rfl fun h=> by have:=h.dl; omega
 rw[if_neg c2,qo (by omega) (by omega),ob];by_cases c3:(x.Maps.length:Int)=(x.Dims.length:Int) - 1
 case neg=> rw[if_neg c3]; exact .of_false rfl fun h=> by have:=h.ml; omega
 rw[if_pos c3];obtain⟨t,g1,g2⟩:=F39_1_eq hsm;rw[g1,ob];rcases g2 with⟨rfl,g2⟩|⟨rfl,g2⟩
 case inr=> exact .of_false rfl fun h=> g2 h.dims
 have hs:ShapeC x:=⟨hp,by omega,by omega,g2⟩;obtain⟨t,k1,k2⟩:=F39_2_eq hs hsm;simp only;rw[k1,ob];rcases k2 with⟨rfl,k2,k3⟩|⟨rfl,k2⟩
 ·exact .of_true rfl ⟨hs,k2,k3⟩
 ·exact .of_false rfl fun h=> k2 ⟨h.tab,h.sq⟩
theorem F42_1_eq{x:qh}(hs:ShapeC x)(hsm:jD x):
  ∃t,forR 0 (x.Maps.length:Int) (F42_1_B x) (F42_1_D x) ()=some t∧((t= .inl ()∧∀k,k < x.Maps.length→jP x k)∨(t= .inr false∧¬∀k,k < x.Maps.length→jP x k)):=by
 have hml:=hs.ml;have hm:=hsm.m;have hlen:x.Maps.length < 4611686018427387904:=by omega
 refine qx x.Maps.length rfl hlen (fun i _=>∀k,k < i→jP x k) _ (fun k hk=> by omega) ?_ ?_
 ·rintro i _ hi ht
  unfold F42_1_B;have e2:((i:Int)+1)=((i+1:Nat):Int):=by omega
  have hr:=hsm.r _ (wB hi);rw[qm hi,ob,e2,qn (show i+1 < x.Dims.length by omega) 0,ob];have hti:jP x i↔((x.Maps[i].length:Int)=x.Dims.getD (i+1) 0∧∀r∈x.Maps[i],RowOK x.Prime (x.Dims.getD i 0) r):=by unfold jP; rw[mapsD hi]; rfl
  by_cases hc:(x.Maps[i].length:Int)=x.Dims.getD (i+1) 0
  ·rw[if_pos hc,qn (show i < x.Dims.length by omega) 0,ob]
   have hT:=F90_tells (p:=x.Prime) (w:=x.Dims.getD i 0) (m:=x.Maps[i]) hs.p.range (by omega) (fun r h=> by have:=hr.2 r h; omega);rcases hT.case with⟨h1,h2⟩|⟨h1,h2⟩
   ·rw[h1,ob,if_pos rfl]
    left;refine⟨(),rfl,fun k hk=>?_⟩;by_cases e:k=i
    ·subst e; exact hti.2 ⟨hc,h2⟩
    ·exact ht k (by omega)
   ·rw[h1,ob,if_neg wE]
    right;exact⟨_,rfl,.inr ⟨rfl,fun ha=> h2 (hti.1 (ha i hi)).2⟩⟩
  ·rw[if_neg hc]
   right;exact⟨_,rfl,.inr ⟨rfl,fun ha=> hc (hti.1 (ha i hi)).1⟩⟩
 ·rintro _ ht
  exact⟨.inl (),rfl,.inl ⟨rfl,ht⟩⟩
theorem F91_eq{x:qh}(hs:ShapeC x)(hsm:jD x){k:Nat}(h1:0 < k)(h2:k < x.Maps.length)(t1:jP x (k - 1))(t2:jP x k){row:List Int}(hr:row∈x.Maps.getD k []):
  F91 x (k:Int) row=some (lin x.Prime (x.Dims.getD (k - 1) 0).toNat row (x.Maps.getD (k - 1) [])):=by
 have hml:=hs.ml;have hdl:=hs.dl;obtain⟨H,d0,d8⟩:=linOK_of hs h1 h2 t1 t2 hr;unfold F91;have e1:((k:Int) - 1)=((k - 1:Nat):Int):=by omega
 rw[if_neg (by omega),F86_eq hsm.d,ob,if_neg (by omega),qo (by omega) (by omega),ob,e1,qn (show k - 1 < x.Dims.length by omega) 0,ob,qn (show k - 1 < x.Maps.length by omega) [],ob,
  F119_eq H (by omega),ob]
theorem F42_3_eq{x:qh}(hs:ShapeC x)(hsm:jD x)(ht:∀k,k < x.Maps.length→jP x k){n:Nat}(hn:2≤n)(h2:n - 1 < x.Maps.length):
  ∃t,forR 0 ((x.Maps[n - 1].length:Nat):Int) (F42_3_B x (n:Int) x.Maps[n - 1]) (F42_3_D x (n:Int) x.Maps[n - 1]) ()=some t∧((t= .inl ()∧SqAt x (n - 1))∨(t= .inr false∧¬SqAt x (n - 1))):=by
 have hml:=hs.ml;have hdl:=hs.dl;have hk:=(hsm.r _ (wB h2)).1;have hlen:x.Maps[n - 1].length < 4611686018427387904:=by omega
 refine qx x.Maps[n - 1].length rfl hlen (fun i _=>∀j (hj:j < i) (h3:j < x.Maps[n - 1].length),∀y∈lin x.Prime (x.Dims.getD (n - 1 - 1) 0).toNat x.Maps[n - 1][j] (x.Maps.getD (n - 1 - 1) []),y=0) _ (fun j hj=> by omega) ?_ ?_
 ·rintro i _ hi hI
  unfold F42_3_B;have hrow:x.Maps[n - 1][i]∈x.Maps.getD (n - 1) []:=by rw[mapsD h2]; exact wB hi
  have e1:((n:Int) - 1)=((n - 1:Nat):Int):=by omega
  have t1:=ht (n - 1 - 1) (by omega);have t2:=ht (n - 1) h2;obtain⟨H,d0,d8⟩:=linOK_of hs (by omega) h2 t1 t2 hrow;rw[qm hi,ob,qo (by omega) (by omega),ob,e1,F91_eq hs hsm (by omega) h2 t1 t2 hrow,ob];rcases(F92_tells (l:=lin x.Prime (x.Dims.getD (n - 1 - 1) 0).toNat x.Maps[n - 1][i] (x.Maps.getD (n - 1 - 1) [])) (by rw[lin_len H]; omega)).case with⟨g1,g2⟩|⟨g1,g2⟩
  ·rw[g1,ob,if_pos rfl]
   left;refine⟨(),rfl,fun j hj h3=>?_⟩;by_cases e:j=i
   ·subst e; exact g2
   ·exact hI j (by omega) h3
  ·rw[g1,ob,if_neg wE]
   right;exact⟨_,rfl,.inr ⟨rfl,fun ha=> g2 (ha _ hrow)⟩⟩
 ·rintro _ hI
  refine⟨.inl (),rfl,.inl ⟨rfl,fun row hr=>?_⟩⟩;rw[mapsD h2]at hr;obtain⟨j,hj,rfl⟩:=wN hr;exact hI j hj hj
theorem F42_2_eq{x:qh}(hs:ShapeC x)(hsm:jD x)(ht:∀k,k < x.Maps.length→jP x k):
  ∃t,qV (F42_2_S x) 2=some t∧((t= .inl ()∧∀k,0 < k→k < x.Maps.length→SqAt x k)∨(t= .inr false∧¬∀k,0 < k→k < x.Maps.length→SqAt x k)):=by
 have hml:=hs.ml;have hdl:=hs.dl;refine qW (fun j:Int=>(x.Dims.length+2 - j).toNat) (fun j=>∃n:Nat,j=n∧2≤n∧n≤x.Dims.length+1∧∀k,0 < k→k < n - 1→k < x.Maps.length→SqAt x k) _ ⟨2,rfl,by omega,by omega,fun k h0 hk=> by omega⟩ ?_;rintro _ ⟨n,rfl,hn,hn2,hall⟩;unfold F42_2_S;rw[F86_eq hsm.d,ob];by_cases hlt:(n:Int)≤(x.Dims.length:Int) - 1
 ·rw[if_pos hlt]
  have e1:((n:Int) - 1)=((n - 1:Nat):Int):=by omega
  have h2:n - 1 < x.Maps.length:=by omega
  rw[qo (by omega) (by omega),ob,e1,qm h2,ob];obtain⟨t,g1,g2⟩:=F42_3_eq hs hsm ht hn h2;rw[g1,ob];rcases g2 with⟨rfl,g2⟩|⟨rfl,g2⟩
  ·left
   refine⟨((n+1:Nat):Int),?_,⟨n+1,rfl,by omega,by omega,fun k h0 hk h3=>?_⟩,by omega⟩
   ·simp only
    rw[qo (by omega) (by omega),ob];rfl
   ·by_cases e:k=n - 1
    ·subst e; exact g2
    ·exact hall k h0 (by omega) h3
  ·right
   exact⟨_,rfl,.inr ⟨rfl,fun ha=> g2 (ha _ (by omega) h2)⟩⟩
 ·rw[if_neg hlt]
  right;exact⟨_,rfl,.inl ⟨rfl,fun k h0 hk=> hall k h0 (by omega) hk⟩⟩
theorem F42_tells{x:qh}(hsm:jD x):jT (F42 x) (ValidC x):=by
 have hd:=hsm.d;unfold F42;rcases(F67_tells x.Prime).case with⟨h1,hp⟩|⟨h1,hp⟩
 case inr=> rw[h1,ob,if_neg wE]; exact .of_false rfl fun h=> hp h.p
 rw[h1,ob,if_pos rfl,F86_eq hd,ob,jQ,ob];by_cases c1:0≤(x.Dims.length:Int) - 1∧(x.Dims.length:Int) - 1≤5
 case neg=> rw[if_neg (by simpa using c1)]; exact .of_false rfl fun h=> by have:=h.dl; omega
 rw[if_pos (by simpa using c1)];by_cases c3:(x.Maps.length:Int)=(x.Dims.length:Int) - 1
 case neg=> rw[if_neg c3]; exact .of_false rfl fun h=> by have:=h.ml; omega
 rw[if_pos c3];have h88:F82 x.Dims (fun y=> F88 y)=some (x.Dims.any fun d=> !decide (0≤d∧d≤8)):=F82_eq _ (by omega) (fun d _=> by unfold F88; rw[jQ,ob]);rw[h88,ob];have hany:(x.Dims.any fun d=> !decide (0≤d∧d≤8))=true↔¬∀d∈x.Dims,0≤d∧d≤8:=by
  simp only[vS,vX,decide_eq_false_iff_not];constructor
  ·rintro⟨d,h1,h2⟩ ha; exact h2 (ha d h1)
  ·intro hn
   exact vQ fun hc=> hn fun d hd=> vQ fun h=> hc ⟨d,hd,h⟩
 by_cases c4:(x.Dims.any fun d=> !decide (0≤d∧d≤8))=true
 ·rw[if_pos c4]; exact .of_false rfl fun h=> hany.1 c4 h.dims
 rw[if_neg c4];have hdims:∀d∈x.Dims,0≤d∧d≤8:=vQ fun hc=> c4 (hany.2 hc);have hs:ShapeC x:=⟨hp,by omega,by omega,hdims⟩;obtain⟨t,g1,g2⟩:=F42_1_eq hs hsm;rw[g1,ob];rcases g2 with⟨rfl,ht⟩|⟨rfl,ht⟩
 case inr=> exact .of_false rfl fun h=> ht h.tab
 obtain⟨t,k1,k2⟩:=F42_2_eq hs hsm ht;simp only;rw[k1,ob];rcases k2 with⟨rfl,k2⟩|⟨rfl,k2⟩
 ·exact .of_true rfl ⟨hs,ht,k2⟩
 ·exact .of_false rfl fun h=> k2 h.sq
def numAt(ms:List (List (List Int)))(k i j:Nat):Int:=((ms.getD k []).getD i []).getD j 0
def InT(ms:List (List (List Int)))(k i j:Nat):Prop:=k < ms.length∧i < (ms.getD k []).length∧j < ((ms.getD k []).getD i []).length
theorem qR{α:Type}{l:List α}{i:Nat}(h:i < l.length)(d:α):l.getD i d∈l:=by
 rw[List.getD_eq_getElem?_getD,List.getElem?_eq_getElem h]; exact wB h
structure qN (x:qd):Prop where
 c:jD x.Complex
 l:x.Levels.length≤1048576
 r:∀q∈x.Levels,q.length≤1048576
def LevAt(x:qd)(k i j:Nat):Prop:=numAt x.Complex.Maps k i j=0∨(x.Levels.getD k []).getD j 0≤(x.Levels.getD (k+1) []).getD i 0
structure LevC (x:qd):Prop where
 ll:x.Levels.length=x.Complex.Dims.length
 lv:∀n,n < x.Levels.length→((x.Levels.getD n []).length:Int)=x.Complex.Dims.getD n 0∧∀q∈x.Levels.getD n [],0≤q∧q≤5
structure qI (x:qd):Prop extends LevC x where
 vc:ValidC x.Complex
 le:∀k i j,InT x.Complex.Maps k i j→LevAt x k i j
theorem levsD{x:qd}{k:Nat}(h:k < x.Levels.length):x.Levels.getD k []=x.Levels[k]:=by simp[h]
theorem bounds{x:qd}(hv:ValidC x.Complex)(hl:LevC x){k i j:Nat}(h:InT x.Complex.Maps k i j):k+1 < x.Levels.length∧j < (x.Levels.getD k []).length∧i < (x.Levels.getD (k+1) []).length:=by
 obtain⟨h1,h2,h3⟩:=h;have hml:=hv.ml;have hll:=hl.ll;have ht:=hv.tab k h1;have l1:=(hl.lv k (by omega)).1;have l2:=(hl.lv (k+1) (by omega)).1;have hi:(x.Complex.Maps.getD k []).getD i []∈x.Complex.Maps.getD k []:=qR h2 [];have r:=(ht.2 _ hi).1;have t1:=ht.1;refine⟨by omega,by omega,by omega⟩
theorem F77_eq{x:qd}{k i:Nat}(h1:k < x.Levels.length)(h2:i < (x.Levels.getD k []).length):F77 x (k:Int) (i:Int)=some ((x.Levels.getD k []).getD i 0):=by
 unfold F77;rw[qn h1 [],ob,qn h2 0,ob]
theorem F76_eq{x:qh}(hs:x.Dims.length≤1048576){k:Nat}(h:k+1 < x.Dims.length)(hm:k < x.Maps.length):F76 x ((k+1:Nat):Int)=some (x.Maps.getD k []):=by
 unfold F76;have e:(((k+1:Nat):Int) - 1)=(k:Int):=by omega
 rw[qo (by omega) (by omega),ob,F54_eq,ob,if_pos (by simp; omega),qo (by omega) (by omega),ob,e,qn hm [],ob]
theorem F38_2_eq{x:qd}(hsm:qN x){n:Nat}(hn:n < x.Levels.length):
  ∃t,qV (F38_2_S x (n:Int)) 0=some t∧((t= .inl ()∧∀q∈x.Levels.getD n [],0≤q∧q≤5)∨(t= .inr false∧¬∀q∈x.Levels.getD n [],0≤q∧q≤5)):=by
 have hr:=hsm.r _ (wB hn);rw[levsD hn];refine qW (fun j:Int=>(x.Levels[n].length - j).toNat) (fun j=>∃m:Nat,j=m∧m≤x.Levels[n].length∧∀k (hk:k < m) (h2:k < x.Levels[n].length),0≤x.Levels[n][k]∧x.Levels[n][k]≤5) _ ⟨0,rfl,by omega,fun k hk=> by omega⟩ ?_;rintro _ ⟨m,rfl,hm,hall⟩;unfold F38_2_S;rw[qm hn,ob];by_cases hlt:(m:Int) < x.Levels[n].length
 ·have hml:m < x.Levels[n].length:=by omega
  rw[if_pos hlt,qm hml,ob,F54_eq,ob];by_cases hx:0≤x.Levels[n][m]∧x.Levels[n][m]≤5
  ·rw[if_pos (by simpa using hx),qo (by omega) (by omega),ob]
   left;refine⟨_,rfl,⟨m+1,rfl,hml,fun k hk h2=>?_⟩,by omega⟩;by_cases e:k=m
   ·subst e; exact hx
   ·exact hall k (by omega) h2
  ·rw[if_neg (by simpa using hx)]
   right;exact⟨_,rfl,.inr ⟨rfl,fun ha=> hx (ha _ (wB hml))⟩⟩
 ·rw[if_neg hlt]
  right;refine⟨_,rfl,.inl ⟨rfl,fun q hq=>?_⟩⟩;obtain⟨k,hk,rfl⟩:=wN hq;exact hall k (by omega) hk
def LvAt(x:qd)(n:Nat):Prop:=((x.Levels.getD n []).length:Int)=x.Complex.Dims.getD n 0∧∀q∈x.Levels.getD n [],0≤q∧q≤5
theorem F38_1_eq{x:qd}(hsm:qN x)(hl:x.Levels.length=x.Complex.Dims.length):
  ∃t,forR 0 (x.Levels.length:Int) (F38_1_B x) (F38_1_D x) ()=some t∧((t= .inl ()∧∀n,n < x.Levels.length→LvAt x n)∨(t= .inr false∧¬∀n,n < x.Levels.length→LvAt x n)):=by
 have hm:=hsm.l;have hlen:x.Levels.length < 4611686018427387904:=by omega
 refine qx x.Levels.length rfl hlen (fun i _=>∀k,k < i→LvAt x k) _ (fun k hk=> by omega) ?_ ?_
 ·rintro i _ hi ht
  unfold F38_1_B;rw[qn hi [],ob,qn (show i < x.Complex.Dims.length by omega) 0,ob];by_cases hc:((x.Levels.getD i []).length:Int)=x.Complex.Dims.getD i 0
  ·rw[if_pos hc]
   obtain⟨t,g1,g2⟩:=F38_2_eq hsm hi;rw[g1,ob];rcases g2 with⟨rfl,g2⟩|⟨rfl,g2⟩
   ·left
    refine⟨(),rfl,fun k hk=>?_⟩;by_cases e:k=i
    ·subst e; exact⟨hc,g2⟩
    ·exact ht k (by omega)
   ·right
    exact⟨_,rfl,.inr ⟨rfl,fun ha=> g2 (ha i hi).2⟩⟩
  ·rw[if_neg hc]
   right;exact⟨_,rfl,.inr ⟨rfl,fun ha=> hc (ha i hi).1⟩⟩
 ·rintro _ ht
  exact⟨.inl (),rfl,.inl ⟨rfl,ht⟩⟩
theorem F38_5_eq{x:qd}(hsm:qN x)(hv:ValidC x.Complex)(hl:LevC x){k i:Nat}(hk:k < x.Complex.Maps.length)(hi:i < (x.Complex.Maps.getD k []).length):
  ∃t,qV (F38_5_S x ((k+1:Nat):Int) (x.Complex.Maps.getD k []) (i:Int)) 0=some t∧((t= .inl ()∧∀j,j < ((x.Complex.Maps.getD k []).getD i []).length→LevAt x k i j)∨(t= .inr false∧¬∀j,j < ((x.Complex.Maps.getD k []).getD i []).length→LevAt x k i j)):=by
 have hdl:=hv.dl;have hml:=hv.ml;have hrow:(x.Complex.Maps.getD k []).getD i []∈x.Complex.Maps.getD k []:=qR hi [];have hr:((x.Complex.Maps.getD k []).getD i []).length≤1048576:=(hsm.c.r _ (by rw[mapsD hk]; exact wB hk)).2 _ hrow;refine qW (fun j:Int=>(((x.Complex.Maps.getD k []).getD i []).length - j).toNat) (fun j=>∃m:Nat,j=m∧m≤((x.Complex.Maps.getD k []).getD i []).length∧∀j,j < m→LevAt x k i j) _ ⟨0,rfl,by omega,fun k hk=> by omega⟩ ?_;rintro _ ⟨m,rfl,hm,hall⟩;unfold F38_5_S;rw[qn hi [],ob];by_cases hlt:(m:Int) < ((x.Complex.Maps.getD k []).getD i []).length
 ·have hm2:m < ((x.Complex.Maps.getD k []).getD i []).length:=by omega
  obtain⟨b1,b2,b3⟩:=bounds hv hl (show InT x.Complex.Maps k i m from ⟨hk,hi,hm2⟩);rw[if_pos hlt,qn hm2 0,ob];by_cases h0:((x.Complex.Maps.getD k []).getD i []).getD m 0=0
  ·rw[if_pos h0,qo (by omega) (by omega),ob]
   left;refine⟨_,rfl,⟨m+1,rfl,hm2,fun j hj=>?_⟩,by omega⟩;by_cases e:j=m
   ·subst e; exact .inl h0
   ·exact hall j (by omega)
  ·have e1:(((k+1:Nat):Int) - 1)=(k:Int):=by omega
   rw[if_neg h0,qo (by omega) (by omega),ob,e1,F77_eq (by omega) b2,ob,F77_eq b1 b3,ob];by_cases hlv:(x.Levels.getD (k+1) []).getD i 0 < (x.Levels.getD k []).getD m 0
   ·rw[if_pos hlv]
    right;refine⟨_,rfl,.inr ⟨rfl,fun ha=>?_⟩⟩;rcases ha m hm2 with h|h
    ·exact h0 h
    ·omega
   ·rw[if_neg hlv,qo (by omega) (by omega),ob]
    left;refine⟨_,rfl,⟨m+1,rfl,hm2,fun j hj=>?_⟩,by omega⟩;by_cases e:j=m
    ·subst e; exact .inr (by omega)
    ·exact hall j (by omega)
 ·rw[if_neg hlt]
  right;exact⟨_,rfl,.inl ⟨rfl,fun j hj=> hall j (by omega)⟩⟩
def LeAt(x:qd)(k:Nat):Prop:=∀i j,InT x.Complex.Maps k i j→LevAt x k i j
theorem F38_4_eq{x:qd}(hsm:qN x)(hv:ValidC x.Complex)(hl:LevC x){k:Nat}(hk:k < x.Complex.Maps.length):
  ∃t,forR 0 ((x.Complex.Maps.getD k []).length:Int) (F38_4_B x ((k+1:Nat):Int) (x.Complex.Maps.getD k [])) (F38_4_D x ((k+1:Nat):Int) (x.Complex.Maps.getD k [])) ()=some t∧((t= .inl ()∧LeAt x k)∨(t= .inr false∧¬LeAt x k)):=by
 have hm:(x.Complex.Maps.getD k []).length≤1048576:=(hsm.c.r _ (by rw[mapsD hk]; exact wB hk)).1;have hlen:(x.Complex.Maps.getD k []).length < 4611686018427387904:=by omega
 refine qx (x.Complex.Maps.getD k []).length rfl hlen (fun n _=>∀i,i < n→∀j,InT x.Complex.Maps k i j→LevAt x k i j) _ (fun i hi=> by omega) ?_ ?_
 ·rintro i _ hi ht
  unfold F38_4_B;obtain⟨t,g1,g2⟩:=F38_5_eq hsm hv hl hk hi;rw[g1,ob];rcases g2 with⟨rfl,g2⟩|⟨rfl,g2⟩
  ·left
   refine⟨(),rfl,fun j hj m hin=>?_⟩;by_cases e:j=i
   ·subst e; exact g2 m hin.2.2
   ·exact ht j (by omega) m hin
  ·right
   exact⟨_,rfl,.inr ⟨rfl,fun ha=> g2 fun j hj=> ha i j ⟨hk,hi,hj⟩⟩⟩
 ·rintro _ ht
  exact⟨.inl (),rfl,.inl ⟨rfl,fun i j hin=> ht i hin.2.1 j hin⟩⟩
theorem F38_3_eq{x:qd}(hsm:qN x)(hv:ValidC x.Complex)(hl:LevC x):
  ∃t,forR 1 (x.Levels.length:Int) (F38_3_B x) (F38_3_D x) ()=some t∧((t= .inl ()∧∀k,k < x.Complex.Maps.length→LeAt x k)∨(t= .inr false∧¬∀k,k < x.Complex.Maps.length→LeAt x k)):=by
 have hm:=hsm.l;have hll:=hl.ll;have hml:=hv.ml;have hdl:=hv.dl;have hlen:x.Levels.length < 4611686018427387904:=by omega
 refine forR_from 1 x.Levels.length rfl rfl (by omega) hlen (fun n _=> 1≤n∧∀k,k < n - 1→LeAt x k) _ ⟨wD _,fun k hk=> by omega⟩ ?_ ?_
 ·rintro n _ hn ⟨h1,ht⟩
  unfold F38_3_B;obtain⟨k,rfl⟩:∃k,n=k+1:=⟨n - 1,by omega⟩;have hk:k < x.Complex.Maps.length:=by omega
  rw[F76_eq hsm.c.d (by omega) hk,ob];obtain⟨t,g1,g2⟩:=F38_4_eq hsm hv hl hk;rw[g1,ob];rcases g2 with⟨rfl,g2⟩|⟨rfl,g2⟩
  ·left
   refine⟨(),rfl,by omega,fun m hm'=>?_⟩;by_cases e:m=k
   ·subst e; exact g2
   ·exact ht m (by omega)
  ·right
   exact⟨_,rfl,.inr ⟨rfl,fun ha=> g2 (ha k hk)⟩⟩
 ·rintro _ ⟨h1,ht⟩
  exact⟨.inl (),rfl,.inl ⟨rfl,fun k hk=> ht k (by omega)⟩⟩
theorem F38_tells{x:qd}(hsm:qN x):jT (F38 x) (qI x):=by
 unfold F38;rcases(F39_tells hsm.c).case with⟨h1,hv⟩|⟨h1,hv⟩
 case inr=> rw[h1,ob,if_neg wE]; exact .of_false rfl fun h=> hv h.vc
 rw[h1,ob,if_pos rfl];by_cases c1:(x.Levels.length:Int)=x.Complex.Dims.length
 case neg=> rw[if_neg c1]; exact .of_false rfl fun h=> by have:=h.ll; omega
 rw[if_pos c1];obtain⟨t,g1,g2⟩:=F38_1_eq hsm (by omega);rw[g1,ob];rcases g2 with⟨rfl,g2⟩|⟨rfl,g2⟩
 case inr=> exact .of_false rfl fun h=> g2 h.lv
 have hl:LevC x:=⟨by omega,g2⟩;obtain⟨t,k1,k2⟩:=F38_3_eq hsm hv hl;simp only;rw[k1,ob];rcases k2 with⟨rfl,k2⟩|⟨rfl,k2⟩
 ·exact .of_true rfl ⟨hl,hv,fun k i j h=> k2 k h.1 i j h⟩
 ·exact .of_false rfl fun h=> k2 fun k hk i j hin=> h.le k i j hin
theorem F41_1_eq{x:qd}(hsm:qN x)(hl:x.Levels.length=x.Complex.Dims.length):
  ∃t,forR 0 (x.Levels.length:Int) (F41_1_B x) (F41_1_D x) ()=some t∧((t= .inl ()∧∀n,n < x.Levels.length→LvAt x n)∨(t= .inr false∧¬∀n,n < x.Levels.length→LvAt x n)):=by
 have hm:=hsm.l;have hlen:x.Levels.length < 4611686018427387904:=by omega
 refine qx x.Levels.length rfl hlen (fun i _=>∀k,k < i→LvAt x k) _ (fun k hk=> by omega) ?_ ?_
 ·rintro i _ hi ht
  unfold F41_1_B;rw[qn hi [],ob,qn (show i < x.Complex.Dims.length by omega) 0,ob];by_cases hc:((x.Levels.getD i []).length:Int)=x.Complex.Dims.getD i 0
  ·rw[if_pos hc]
   have hr:(x.Levels.getD i []).length≤1048576:=hsm.r _ (by rw[levsD hi]; exact wB hi);have h83:F82 (x.Levels.getD i []) (fun y=> F83 y)=some ((x.Levels.getD i []).any fun q=> !decide (0≤q∧q≤5)):=F82_eq _ (by omega) (fun q _=> by unfold F83; rw[jQ,ob]);have hany:((x.Levels.getD i []).any fun q=> !decide (0≤q∧q≤5))=true↔¬∀q∈x.Levels.getD i [],0≤q∧q≤5:=by
    simp only[vS,vX,decide_eq_false_iff_not];constructor
    ·rintro⟨d,h1,h2⟩ ha; exact h2 (ha d h1)
    ·intro hn
     exact vQ fun hc=> hn fun d hd=> vQ fun h=> hc ⟨d,hd,h⟩
   rw[h83,ob];by_cases c4:((x.Levels.getD i []).any fun q=> !decide (0≤q∧q≤5))=true
   ·rw[if_pos c4]
    right;exact⟨_,rfl,.inr ⟨rfl,fun ha=> hany.1 c4 (ha i hi).2⟩⟩
   ·rw[if_neg c4]
    left;refine⟨(),rfl,fun k hk=>?_⟩;by_cases e:k=i
    ·subst e; exact⟨hc,vQ fun h=> c4 (hany.2 h)⟩
    ·exact ht k (by omega)
  ·rw[if_neg hc]
   right;exact⟨_,rfl,.inr ⟨rfl,fun ha=> hc (ha i hi).1⟩⟩
 ·rintro _ ht
  exact⟨.inl (),rfl,.inl ⟨rfl,ht⟩⟩
theorem F85_and{ms:List (List (List Int))}{f:Int→Int→Int→Int→Bool→Option Bool}(P:Nat→Nat→Nat→Prop)(h1:ms.length≤1048576)(h2:∀m∈ms,m.length≤1048576∧∀r∈m,r.length≤1048576)
  (hf:∀k i j b,InT ms k i j→∃b',f ((k:Int)+1) i j (numAt ms k i j) b=some b'∧(b'=true↔b=true∧P k i j)):jT (F85 ms f true) (∀k i j,InT ms k i j→P k i j):=by
 unfold F85;have hl1:ms.length < 4611686018427387904:=by omega
 refine qx (τ:=Bool) (σ:=Bool) ms.length rfl hl1 (fun n b=>(b=true↔∀k i j,k < n→InT ms k i j→P k i j)) _ (by simp) ?_ ?_
 ·intro k b hk hI
  left;rw[qn hk [],ob];have hmem:ms.getD k []∈ms:=qR hk [];have hm:=h2 _ hmem;have hl2:(ms.getD k []).length < 4611686018427387904:=by have:=hm.1; omega
  suffices hs:∃t,forR 0 ((ms.getD k []).length:Int) _ _ b=some t∧(t=true↔∀k' i j,k' < k+1→InT ms k' i j→P k' i j) by
   obtain⟨t,g1,g2⟩:=hs;rw[g1,ob];exact⟨t,rfl,g2⟩
  refine qx (τ:=Bool) (σ:=Bool) (ms.getD k []).length rfl hl2 (fun n b=>(b=true↔(∀k' i j,k' < k→InT ms k' i j→P k' i j)∧∀i j,i < n→InT ms k i j→P k i j)) _ (by rw[hI]; simp) ?_ ?_
  ·intro i b hi hI2
   left;rw[qn hi [],ob];have hmem2:(ms.getD k []).getD i []∈ms.getD k []:=qR hi [];have hl3:((ms.getD k []).getD i []).length < 4611686018427387904:=by have:=hm.2 _ hmem2; omega
   suffices hs:∃t,forR 0 (((ms.getD k []).getD i []).length:Int) _ _ b=some t∧(t=true↔(∀k' i j,k' < k→InT ms k' i j→P k' i j)∧∀i' j,i' < i+1→InT ms k i' j→P k i' j) by
    obtain⟨t,g1,g2⟩:=hs;rw[g1,ob];exact⟨t,rfl,g2⟩
   refine qx (τ:=Bool) (σ:=Bool) ((ms.getD k []).getD i []).length rfl hl3 (fun n b=>(b=true↔((∀k' i j,k' < k→InT ms k' i j→P k' i j)∧∀i' j,i' < i→InT ms k i' j→P k i' j)∧∀j,j < n→InT ms k i j→P k i j)) _ (by rw[hI2]; simp) ?_ ?_
   ·intro j b hj hI3
    left;have hin:InT ms k i j:=⟨hk,hi,hj⟩;rw[qn hj 0,ob,qo (by omega) (by omega),ob];obtain⟨b',g1,g2⟩:=hf k i j b hin;have g1':f ((k:Int)+1) i j (((ms.getD k []).getD i []).getD j 0) b=some b':=g1;rw[g1',ob];refine⟨b',rfl,?_⟩;rw[g2,hI3];constructor
    ·rintro⟨⟨q1,q2⟩,q3⟩
     refine⟨q1,fun j' hj' hin'=>?_⟩;by_cases e:j'=j
     ·subst e; exact q3
     ·exact q2 j' (by omega) hin'
    ·rintro⟨q1,q2⟩
     exact⟨⟨q1,fun j' hj' hin'=> q2 j' (by omega) hin'⟩,q2 j (by omega) hin⟩
   ·intro b hI3
    refine⟨b,rfl,?_⟩;rw[hI3];constructor
    ·rintro⟨⟨q1,q2⟩,q3⟩
     refine⟨q1,fun i' j hi' hin'=>?_⟩;by_cases e:i'=i
     ·subst e; exact q3 j hin'.2.2 hin'
     ·exact q2 i' j (by omega) hin'
    ·rintro⟨q1,q2⟩
     exact⟨⟨q1,fun i' j hi' hin'=> q2 i' j (by omega) hin'⟩,fun j _ hin'=> q2 i j (by omega) hin'⟩
  ·intro b hI2
   refine⟨b,rfl,?_⟩;rw[hI2];constructor
   ·rintro⟨q1,q2⟩ k' i j hk' hin'
    by_cases e:k'=k
    ·subst e; exact q2 i j hin'.2.1 hin'
    ·exact q1 k' i j (by omega) hin'
   ·intro q
    exact⟨fun k' i j hk' hin'=> q k' i j (by omega) hin',fun i j _ hin'=> q k i j (by omega) hin'⟩
 ·intro b hI
  refine⟨b,rfl,?_⟩;rw[hI];constructor
  ·intro q k i j hin; exact q k i j hin.1 hin
  ·intro q k i j _ hin; exact q k i j hin
theorem F41_tells{x:qd}(hsm:qN x):jT (F41 x) (qI x):=by
 unfold F41;rcases(F42_tells hsm.c).case with⟨h1,hv⟩|⟨h1,hv⟩
 case inr=> rw[h1,ob,if_neg wE]; exact .of_false rfl fun h=> hv h.vc
 rw[h1,ob,if_pos rfl];by_cases c1:(x.Levels.length:Int)=x.Complex.Dims.length
 case neg=> rw[if_neg c1]; exact .of_false rfl fun h=> by have:=h.ll; omega
 rw[if_pos c1];obtain⟨t,g1,g2⟩:=F41_1_eq hsm (by omega);rw[g1,ob];rcases g2 with⟨rfl,g2⟩|⟨rfl,g2⟩
 case inr=> exact .of_false rfl fun h=> g2 h.lv
 have hl:LevC x:=⟨by omega,g2⟩;have hml:=hv.ml;have hdl:=hv.dl;have hT:=F85_and (ms:=x.Complex.Maps) (f:=fun n r p v s=> F84 n r p v s x) (LevAt x) hsm.c.m hsm.c.r (by
  intro k i j b hin;obtain⟨b1,b2,b3⟩:=bounds hv hl hin;have hk:=hin.1;unfold F84;cases b with
  |false=> rw[if_neg wE]; exact⟨false,rfl,by simp⟩
  |true=>
   rw[if_pos rfl];by_cases h0:numAt x.Complex.Maps k i j=0
   ·rw[if_pos h0]; exact⟨true,rfl,by simp[LevAt,h0]⟩
   ·have e1:((k:Int)+1 - 1)=(k:Int):=by omega
    have e2:((k:Int)+1)=((k+1:Nat):Int):=by omega
    rw[if_neg h0,qo (by omega) (by omega),ob,e1,qn (show k < x.Levels.length by omega) [],ob,qn b2 0,ob,e2,qn b1 [],ob,qn b3 0,ob];exact⟨_,rfl,by simp only[decide_eq_true_eq,LevAt,h0,false_or,true_and]⟩)
 simp only;rcases hT.case with⟨k1,k2⟩|⟨k1,k2⟩
 ·rw[k1,ob]; exact .of_true rfl ⟨hl,hv,k2⟩
 ·rw[k1,ob]; exact .of_false rfl fun h=> k2 h.le
abbrev LongL{α:Type}(L:α→Prop)(l:List α):Prop:=l.length≤9223372036854775807∧∀y∈l,L y
structure SmallT (ms:List (List (List Int))):Prop where
 m:ms.length≤1048576
 r:∀m∈ms,m.length≤1048576∧∀r∈m,r.length≤1048576
def TabM(x:qh)(ms:List (List (List Int)))(k:Nat):Prop:=TableOK x.Prime (x.Dims.getD (k+1) 0) (x.Dims.getD k 0) (ms.getD k [])
structure MapsOK (x:qh) (ms:List (List (List Int))):Prop where
 v:ValidC x
 l:ms.length=x.Maps.length
 t:∀k,k < ms.length→TabM x ms k
abbrev T3s:=List (List (List Int))
structure Shp (s u:T3s):Prop where
 l:s.length=u.length
 t:∀k,k < u.length→(s.getD k []).length=(u.getD k []).length
 r:∀k,k < u.length→∀i,i < (u.getD k []).length→((s.getD k []).getD i []).length=((u.getD k []).getD i []).length
theorem Shp.refl(s:T3s):Shp s s:=⟨rfl,fun _ _=> rfl,fun _ _ _ _=> rfl⟩
theorem Shp.trans{a b c:T3s}(h:Shp a b)(k:Shp b c):Shp a c:=
 ⟨h.l.trans k.l,fun n hn=>(h.t n (by rw[k.l]; exact hn)).trans (k.t n hn),fun n hn i hi=>(h.r n (by rw[k.l]; exact hn) i (by rw[k.t n hn]; exact hi)).trans (k.r n hn i hi)⟩
theorem Shp.symm{a b:T3s}(h:Shp a b):Shp b a:=
 ⟨h.l.symm,fun n hn=>(h.t n (by rw[←h.l]; exact hn)).symm,fun n hn i hi=>(h.r n (by rw[←h.l]; exact hn) i (by rw[←h.t n (by rw[←h.l]; exact hn)]; exact hi)).symm⟩
theorem getD_ext{α:Type}{l l':List α}(d:α)(h:l.length=l'.length)(hv:∀k,k < l'.length→l.getD k d=l'.getD k d):l=l':=by
 apply uC h;intro k h1 h2;have:=hv k h2;simpa[h1,h2]using this
theorem Shp.eq{s t:T3s}(h:Shp s t)(hv:∀k i j,InT t k i j→numAt s k i j=numAt t k i j):s=t:=by
 refine getD_ext [] h.l fun k hk=> getD_ext [] (h.t k hk) fun i hi=> getD_ext 0 (h.r k hk i hi) fun j hj=> hv k i j ⟨hk,hi,hj⟩
def put3(s:T3s)(k i j:Nat)(z:Int):T3s:=s.set k ((s.getD k []).set i (((s.getD k []).getD i []).set j z))
theorem getD_set{α:Type}{l:List α}{k k':Nat}{x d:α}(hk:k < l.length):(l.set k x).getD k' d=if k'=k then x else l.getD k' d:=by
 rw[List.getD_eq_getElem?_getD,List.getElem?_set];by_cases e:k=k'
 ·subst e; rw[if_pos rfl,if_pos hk,if_pos rfl]; rfl
 ·rw[if_neg e,if_neg (fun q=> e q.symm),List.getD_eq_getElem?_getD]
theorem put3_shp{s:T3s}{k i j:Nat}(h:InT s k i j)(z:Int):Shp (put3 s k i j z) s:=by
 obtain⟨h1,h2,h3⟩:=h;refine⟨by simp[put3],fun n hn=>?_,fun n hn m hm=>?_⟩
 ·unfold put3; rw[getD_set h1]; split
  ·rename_i e; subst e; simp
  ·rfl
 ·unfold put3; rw[getD_set h1]; split
  ·rename_i e; subst e
   rw[getD_set h2]; split
   ·rename_i e; subst e; simp
   ·rfl
  ·rfl
def q1(p a b:Int):Int:=((a+b).tmod p+p).tmod p
def Rng(p:Int)(s:T3s):Prop:=∀k i j,InT s k i j→0≤numAt s k i j∧numAt s k i j < p
def AT(q:Int→Int→Int)(s0 ms:T3s)(D:Nat→Nat→Nat→Prop)(s:T3s):Prop:=
 Shp s s0∧∀k i j,InT s0 k i j→(D k i j→numAt s k i j=q (numAt s0 k i j) (numAt ms k i j))∧(¬D k i j→numAt s k i j=numAt s0 k i j)
theorem AT.zero(q:Int→Int→Int)(s0 ms:T3s):AT q s0 ms (fun _ _ _=> False) s0:=⟨.refl _,fun k i j _=>⟨fun x=> x.elim,fun _=> rfl⟩⟩
theorem cpy_loop{α:Type}{l:List α}{B:Int→List α→Option (List α⊕List α)}{D:Int→List α→Option (List α)}(hl:l.length≤1048576)
  (hB:∀ (i:Nat) (hi:i < l.length) (s:List α),s.length=i→B i s=some (.inl (s++[l[i]]))) (hD:∀i s,D i s=some s):forR 0 (l.length:Int) B D []=some l:=by
 have hlen:l.length < 4611686018427387904:=by omega
 obtain⟨t,h1,h2⟩:=qx (B:=B) (D:=D) l.length rfl hlen (fun i s=> s=l.take i) (fun t=> t=l) (s:=[]) (by simp) (by
  rintro i s hi rfl;left;refine⟨_,hB i hi _ (by simp; omega),?_⟩;rw[wT]) (by
  rintro s rfl;exact⟨_,hD _ _,by simp⟩)
 rw[h1,h2]
theorem app_nil{b:Nat}{α:Type}{l:List α}(h:l.length*b≤1099511627776)(h2:l.length≤1099511627776):app b [] l=some l:=by
 rw[qH (by simpa using h) (by simpa using h2)]; rfl
theorem F94_eq{l:List Int}(h:l.length≤1048576):F94 l=some l:=by
 unfold F94; rw[app_nil (by omega) (by omega),ob]
theorem F96_eq{l:List Int}(h:l.length≤1048576):F96 l=some l:=by
 unfold F96; rw[app_nil (by omega) (by omega)]
theorem F95_eq{l:List (List Int)}(h:l.length≤1048576)(h2:∀r∈l,r.length≤1048576):F95 l=some l:=by
 unfold F95;rw[cpy_loop (B:=F95_1_B l) (D:=F95_1_D l) h (fun i hi s hs=> by
  unfold F95_1_B;rw[qm hi,ob,F94_eq (h2 _ (wB hi)),ob,qH (by simp; omega) (by simp; omega),ob]) (fun i s=> rfl),ob]
theorem F55_eq{x:qh}(h:jD x):F55 x=some x:=by
 have hm:=h.m;have hlen:x.Maps.length < 4611686018427387904:=by omega
 unfold F55;rw[F94_eq h.d,ob];obtain⟨t,h1,h2⟩:=qx (B:=F55_1_B x) (D:=F55_1_D x) x.Maps.length rfl hlen (fun i s=> s=(x.Maps.take i,x.Prime,x.Dims)) (fun t=> t=(x.Maps,x.Prime,x.Dims)) (s:=([],x.Prime,x.Dims)) (by simp) (by
  rintro i s hi rfl;left;have hr:=h.r _ (wB hi);have hlt:(x.Maps.take i).length=i:=by simp; omega
  refine⟨(x.Maps.take (i+1),x.Prime,x.Dims),?_,rfl⟩;unfold F55_1_B;simp only;rw[qm hi,ob,F95_eq hr.1 hr.2,ob,qH (by simp; omega) (by simp; omega),ob,wT]) (by
  rintro s rfl;exact⟨_,rfl,by simp⟩)
 rw[h1,h2,ob]
theorem TabM.len{x:qh}{ms:T3s}{k:Nat}(h:TabM x ms k):((ms.getD k []).length:Int)=x.Dims.getD (k+1) 0:=h.1
theorem MapsOK.self{x:qh}(h:ValidC x):MapsOK x x.Maps:=⟨h,rfl,fun k hk=> h.tab k hk⟩
theorem MapsOK.rng{x:qh}{ms:T3s}(h:MapsOK x ms):Rng x.Prime ms:=by
 rintro k i j ⟨h1,h2,h3⟩;exact((h.t k h1).2 _ (qR h2 [])).2 _ (qR h3 0)
inductive Ch {α:Type} (R:α→Int→Int→Prop):List α→Int→Int→Prop
 |nil (k:Int):Ch R [] k k
 |cons {a:α} {l:List α} {k j m:Int}:R a k j→Ch R l j m→Ch R (a::l) k m
theorem Ch.snoc{α:Type}{R:α→Int→Int→Prop}{a:α}{j m:Int}(h:R a j m):∀ {l:List α} {k:Int},Ch R l k j→Ch R (l++[a]) k m
 |_,_,.nil _=> .cons h (.nil _)
 |_,_,.cons p q=> .cons p (Ch.snoc h q)
theorem Ch.le{α:Type}{R:α→Int→Int→Prop}(hR:∀a s j,R a s j→s≤j):∀ {l:List α} {k m:Int},Ch R l k m→k≤m
 |_,_,_,.nil _=> yC _
 |_,_,_,.cons p q=> Int.le_trans (hR _ _ _ p) (Ch.le hR q)
theorem jD.zero:jD (⟨0,[],[]⟩:qh):=⟨by simp,by simp,by simp⟩
theorem qN.zero:qN (⟨⟨0,[],[]⟩,[]⟩:qd):=⟨.zero,by simp,by simp⟩
theorem tmod_pos{a p:Int}(h:0≤a):a.tmod p=a% p:=Int.tmod_eq_emod_of_nonneg h
theorem tmod_cg{a p:Int}:Cg p (a.tmod p) a:=⟨-(a.tdiv p),by have:=Int.tmod_add_mul_tdiv a p; grind⟩
theorem F127_eq{p x:Int}(hp:2≤p∧p≤7):F127 p x=some (x% p):=by
 have h1:=Int.tmod_lt_of_pos x (show 0 < p by omega);have h2: -p < x.tmod p:=by
  have h3:=Int.tmod_lt_of_pos (-x) (show 0 < p by omega);rw[Int.neg_tmod]at h3; omega
 unfold F127;rw[xx (by omega),ob,qo (by omega) (by omega),ob,xx (by omega),ob,tmod_pos (by omega)]
 congr 1
 exact Cg.emod ((tmod_cg.add (Cg.refl p p)).trans ⟨1,by grind⟩)
theorem idx_loop{α:Type}{l:List α}(g:Nat→α→α){B:Int→List α→Option (List α⊕List α)}{D:Int→List α→Option (List α)}(hl:l.length≤1048576)
  (hB:∀ (i:Nat) (hi:i < l.length) (s:List α),s.length=l.length→(∀k,s[k]? =if k < i then(l[k]?).map (g k)else l[k]?)→B i s=some (.inl (s.set i (g i l[i])))) (hD:∀i s,D i s=some s):forR 0 (l.length:Int) B D l=some (l.mapIdx g):=by
 obtain⟨t,h1,h2⟩:=qx (B:=B) (D:=D) l.length rfl (by omega) (fun i s=> s.length=l.length∧∀k,s[k]? =if k < i then(l[k]?).map (g k)else l[k]?) (fun t=> t=l.mapIdx g) (s:=l) ⟨rfl,fun k=> by simp⟩ (by
  rintro i s hi ⟨p1,p2⟩;left;refine⟨_,hB i hi s p1 p2,by rw[vW]; exact p1,fun k=>?_⟩;rw[List.getElem?_set];by_cases e:i=k
  ·subst e; rw[if_pos rfl,if_pos (by omega),if_pos (by omega)]; simp[hi]
  ·rw[if_neg e,p2 k]
   by_cases q:k < i
   ·rw[if_pos q,if_pos (by omega)]
   ·rw[if_neg q,if_neg (by omega)]) (by
  rintro s ⟨p1,p2⟩;refine⟨s,hD _ _,?_⟩;apply List.ext_getElem?;intro k;rw[p2 k,List.getElem?_mapIdx];by_cases q:k < l.length
  ·rw[if_pos q]
  ·rw[if_neg q,List.getElem?_eq_none (by omega)]; rfl)
 rw[h1,h2]
theorem zJ{v:List Int}{j:Nat}(h:j < v.length):getI v (j:Int)=some (nth v j):=by rw[qm h,qU h]
theorem rng_mul{p a b:Int}(hp:2≤p∧p≤7)(ha:0≤a∧a < p)(hb:0≤b∧b < p):0≤a*b∧a*b≤49:=by
 refine⟨Int.mul_nonneg ha.1 hb.1,?_⟩;have:=Int.mul_le_mul (show a≤7 by omega) (show b≤7 by omega) hb.1 (by decide);omega
theorem scl_loop{p k:Int}{w:Nat}(hp:2≤p∧p≤7)(hk:0≤k∧k < p){v:List Int}(hv:qJ p w v)(hw:w≤1048576){B:Int→List Int→Option (List Int⊕List Int)}{D:Int→List Int→Option (List Int)}
  (hB:∀i row,B i row=(getI row i).bind fun x=>(chk (x*k)).bind fun m=>(remI m p).bind fun z=>(setI row i z).bind fun r=> some (.inl r)) (hD:∀i s,D i s=some s):forR 0 (v.length:Int) B D v=some (scl p v k):=by
 have hl:=hv.len;rw[idx_loop (fun _ x=> x*k% p) (by omega) (fun i hi s hs hk'=>?_) hD]
 ·congr 1
  apply uC <;> simp[scl]
 ·have h1:s[i]? =v[i]?:=by rw[hk' i,if_neg (Nat.lt_irrefl _)]
  have h2:s[i]'(by omega)=v[i]:=by
   have:=h1;rw[List.getElem?_eq_getElem (by omega),List.getElem?_eq_getElem hi]at this;exact wA this
  have hr:=hv.rng i (by omega);rw[qU hi]at hr;have hm:=rng_mul hp hr hk;rw[hB,qm (show i < s.length by omega),ob,h2,qo (by omega) (by omega),ob,xx (by omega),ob,zh (by omega),ob,tmod_pos hm.1]
theorem F136_eq{p k:Int}{w:Nat}(hp:2≤p∧p≤7)(hk:0≤k∧k < p){v u:List Int}(hv:qJ p w v)(hu:qJ p w u)(hw:w≤1048576):F136 p v u k=some (subv p v u k):=by
 have hl:=hv.len;have hul:=hu.len;have hsl:(subv p v u k).length=w:=by simp[subv,hl,hul]
 unfold F136;obtain⟨t,g1,g2⟩:=qx (B:=F136_1_B p v u k) (D:=F136_1_D p v u k) v.length rfl (by omega) (fun i s=> s=(subv p v u k).take i) (fun t=> t=subv p v u k) (s:=[]) (by simp) (by
  rintro i s hi rfl;left;have hiw:i < w:=by omega
  have h1:=hv.rng i hiw;have h2:=hu.rng i hiw;have hm:=rng_mul hp hk h2;refine⟨(subv p v u k).take (i+1),?_,rfl⟩;unfold F136_1_B;rw[zJ hi,ob,zJ (by omega),ob,qo (by omega) (by omega),ob,qo (by omega) (by omega),ob,F127_eq hp,ob,qH (by simp; omega) (by simp; omega),ob]
  congr 2
  rw[←wT (show i < (subv p v u k).length by omega)]
  congr 2
  have:=zn (p:=p) (k:=k) hl hul hiw;rw[qU (by omega)]at this;exact this.symm) (by
  rintro s rfl;refine⟨_,rfl,?_⟩;rw[wQ (by omega)])
 rw[g1,ob,g2]
theorem F81_ld{r:List Int}(hl:r.length≤1048576):F81 r=some (if ld r < r.length then(ld r:Int)else -1):=by
 unfold F81;obtain⟨t,g1,g2⟩:=qx (B:=F81_1_B r) (D:=F81_1_D r) r.length rfl (by omega) (fun i _=> i≤ld r) (fun t=>(t= .inl ()∧r.length≤ld r)∨(t= .inr (ld r:Int)∧ld r < r.length)) (s:=()) (vL _) (by
  rintro i _ hi hI;unfold F81_1_B;rw[zJ hi,ob];by_cases h:nth r i=0
  ·left
   rw[if_pos h];refine⟨(),rfl,?_⟩;rcases wW i (ld r)with q|q
   ·exact q
   ·have:i=ld r:=by omega
    subst this;exact absurd h (ld_ne hi)
  ·right
   rw[if_neg h];refine⟨_,rfl,.inr ?_⟩;have:ld r=i:=by
    rcases wW i (ld r)with q|q
    ·exact absurd (zx q) h
    ·omega
   rw[this]; exact⟨rfl,hi⟩) (by
  rintro _ hI;exact⟨_,rfl,.inl ⟨rfl,hI⟩⟩)
 rw[g1,ob];rcases g2 with⟨rfl,h⟩|⟨rfl,h⟩
 ·rw[if_neg (by omega)]
 ·rw[if_pos h]
theorem inv_ex{p x:Int}(hp:IsP p)(h1:1≤x)(h2:x < p):∃m,1≤m∧m < p∧m*x% p=1:=by
 unfold IsP at hp;rcases hp with rfl|rfl|rfl|rfl
 ·obtain rfl:x=1:=by omega
  exact⟨1,by decide⟩
 ·have:x=1∨x=2:=by omega
  rcases this with rfl|rfl
  ·exact⟨1,by decide⟩
  ·exact⟨2,by decide⟩
 ·have:x=1∨x=2∨x=3∨x=4:=by omega
  rcases this with rfl|rfl|rfl|rfl
  ·exact⟨1,by decide⟩
  ·exact⟨3,by decide⟩
  ·exact⟨2,by decide⟩
  ·exact⟨4,by decide⟩
 ·have:x=1∨x=2∨x=3∨x=4∨x=5∨x=6:=by omega
  rcases this with rfl|rfl|rfl|rfl|rfl|rfl
  ·exact⟨1,by decide⟩
  ·exact⟨4,by decide⟩
  ·exact⟨5,by decide⟩
  ·exact⟨2,by decide⟩
  ·exact⟨3,by decide⟩
  ·exact⟨6,by decide⟩
theorem cg_one{p a:Int}(hp:2≤p∧p≤7)(h:a% p=1):Cg p a 1:=by
 have:=(Cg.mod p a).symm
 rwa[h]at this
theorem F135_eq{p x:Int}(hp:IsP p)(h1:1≤x)(h2:x < p):∃k,F135 p x=some k∧0≤k∧k < p∧Cg p (x*k) 1:=by
 have hr:=hp.range;obtain⟨m,m1,m2,m3⟩:=inv_ex hp h1 h2;obtain⟨n,hn⟩:∃n:Nat,p=n:=⟨p.toNat,by omega⟩;obtain⟨t,g1,k,rfl,g2,g3,g4⟩:=forR_from (B:=F135_1_B p x) (D:=F135_1_D p x) (lo:=1) (hi:=p) 1 n rfl hn (by omega) (by omega) (fun i _=> 1≤i∧∀j:Int,1≤j→j < i→j*x% p≠1) (fun t=>∃k:Int,t= .inr k∧0≤k∧k < p∧Cg p (x*k) 1) (s:=()) ⟨wD _,fun j a b=> by omega⟩ (by
  rintro i _ hi ⟨h0,hI⟩;unfold F135_1_B;have hm:=rng_mul hr (show 0≤(i:Int)∧(i:Int) < p by omega) (show 0≤x∧x < p by omega);rw[F127_eq hr,ob,Int.emod_eq_of_lt (show 0≤x by omega) h2,qo (by omega) (by omega),ob,xx (by omega),ob,tmod_pos hm.1];by_cases h:(i:Int)*x% p=1
  ·right
   rw[if_pos h];exact⟨_,rfl,_,rfl,by omega,by omega,by rw[Int.mul_comm]; exact cg_one hr h⟩
  ·left
   rw[if_neg h];refine⟨(),rfl,by omega,fun j a b=>?_⟩;by_cases e:j=i
   ·subst e; exact h
   ·exact hI j a (by omega)) (by
  rintro _ ⟨h0,hI⟩;exact absurd m3 (hI m m1 (by omega)))
 unfold F135;rw[g1,ob];exact⟨k,rfl,g2,g3,g4⟩
theorem F138_eq{p x:Int}(hp:IsP p)(h1:1≤x)(h2:x < p):∃k,F138 p x=some k∧0≤k∧k < p∧Cg p (x*k) 1:=by
 have hr:=hp.range;obtain⟨m,m1,m2,m3⟩:=inv_ex hp h1 h2;obtain⟨t,g1,g2,g3,g4⟩:=qW (S:=F138_1_S p x) (fun v=>(m - v).toNat) (fun v=> 1≤v∧v≤m) (fun t=> 0≤t∧t < p∧Cg p (x*t) 1) (s:=1) ⟨by decide,m1⟩ (by
  rintro v ⟨v1,v2⟩;unfold F138_1_S;have hm:=rng_mul hr (show 0≤v∧v < p by omega) (show 0≤x∧x < p by omega);rw[qo (by omega) (by omega),ob,xx (by omega),ob,tmod_pos hm.1];by_cases h:v*x% p=1
  ·right
   rw[if_pos h];exact⟨_,rfl,by omega,by omega,by rw[Int.mul_comm]; exact cg_one hr h⟩
  ·left
   have hne:v≠m:=fun e=> by rw[e]at h; exact h m3
   rw[if_neg h,qo (by omega) (by omega),ob];exact⟨_,rfl,⟨by omega,by omega⟩,by omega⟩)
 unfold F138;rw[g1,ob];exact⟨t,rfl,g2,g3,g4⟩
theorem F139_eq{p k:Int}{w:Nat}(hp:2≤p∧p≤7)(hk:0≤k∧k < p){r o:List Int}(hr:qJ p w r)(ho:qJ p w o)(hw:w≤1048576):F139 r o p k=some (subv p r o k):=by
 have hl:=hr.len;have hol:=ho.len;unfold F139;rw[show(o.length:Int)=(r.length:Int) by omega,idx_loop (l:=r) (B:=F139_1_B o p k) (D:=F139_1_D) (fun i x=>(x - k*nth o i)% p) (by omega) (fun i hi s hs hk'=>?_) (fun i s=> rfl)]
 ·congr 1
  have hsl:(subv p r o k).length=w:=by simp[subv,hl,hol]
  apply uC (by simp[hl,hsl]);intro i h1 h2;have hi:i < w:=by omega
  have:=zn (p:=p) (k:=k) hl hol hi;rw[qU h2,qU (show i < r.length by omega)]at this;rw[this]; simp
 ·have h1:s[i]? =r[i]?:=by rw[hk' i,if_neg (Nat.lt_irrefl _)]
  have h2:s[i]'(by omega)=r[i]:=by
   have:=h1;rw[List.getElem?_eq_getElem (by omega),List.getElem?_eq_getElem hi]at this;exact wA this
  have a1:=hr.rng i (by omega);rw[qU hi]at a1;have a2:=ho.rng i (by omega);have hm:0≤(p - k)*nth o i∧(p - k)*nth o i≤49:=by
   refine⟨Int.mul_nonneg (by omega) a2.1,?_⟩;have:=Int.mul_le_mul (show p - k≤7 by omega) (show nth o i≤7 by omega) a2.1 (by decide);omega
  unfold F139_1_B;rw[zJ (by omega),ob,qm (show i < s.length by omega),ob,h2,qo (by omega) (by omega),ob,qo (by omega) (by omega),ob,qo (by omega) (by omega),ob,xx (by omega),ob,zh (by omega),ob,tmod_pos (by omega)]
  congr 3
  exact Cg.emod ⟨nth o i,by grind⟩
theorem F134_eq{p:Int}{w:Nat}(hp:2≤p∧p≤7){R:List (List Int)}(hR:Red p w R){v:List Int}(hv:qJ p w v)(hw:w≤1048576)(hn:R.length≤1048576):F134 p R v=some (rest p R v):=by
 have hp0:0 < p:=by omega
 unfold F134;rw[F94_eq (by rw[hv.len]; exact hw),ob];have key:∀i,i≤R.length→qJ p w (rest p (R.take i) v):=fun i _=> zV hp0 (fun r hr=> hR.ok r (wM hr)) hv;obtain⟨t,g1,g2⟩:=qx (B:=F134_1_B p R) (D:=F134_1_D p R) R.length rfl (by omega) (fun i s=> s=rest p (R.take i) v) (fun t=> t=rest p R v) (s:=v) rfl (by
  rintro i s hi rfl;left;refine⟨_,?_,rfl⟩;have hk:=key i (by omega);have hm:=wB hi;have hok:=hR.ok _ hm;have hone:=hR.one _ hm;unfold F134_1_B;rw[qm hi,ob,F81_ld (by rw[hok.len]; exact hw),if_pos (by rw[hok.len]; exact hone.1),ob,zJ (by rw[hk.len]; exact hone.1),ob,F136_eq hp (hk.rng _ hone.1) hk hok hw,ob]
  congr 2
  rw[←wT hi];unfold rest;rw[List.foldl_append]; rfl) (by
  rintro s rfl;exact⟨_,rfl,by rw[vH]⟩)
 rw[g1,ob,g2]
theorem ins_cons{p:Int}{own:List Int}{a:Nat}{o:List Int}{out:List (List Int)}:ins p own a (o::out)=if a < ld o then own::insF p own a o::out.map (insF p own a)else insF p own a o::ins p own a out:=rfl
theorem F131_3_eq{p:Int}{w a:Nat}(hp:2≤p∧p≤7){out:List (List Int)}{own:List Int}(hR:Red p w out)(n:New p w out own a)(hw:w≤1048576)(hn:out.length≤1000000):
  ∃nx put,forR 0 (out.length:Int) (F131_3_B p out own a) F131_3_D ([],false)=some (nx,put)∧(if put=true then nx else nx++[own])=ins p own a out∧nx.length≤2000000:=by
 obtain⟨t,g1,g2,g3⟩:=qx (B:=F131_3_B p out own a) (D:=F131_3_D) out.length rfl (by omega) (fun i s=> s.1.length≤2*i∧(s.2=true→s.1++(out.drop i).map (insF p own a)=ins p own a out)∧(s.2=false→s.1++ins p own a (out.drop i)=ins p own a out))
  (fun t=>(if t.2=true then t.1 else t.1++[own])=ins p own a out∧t.1.length≤2000000) (s:=([],false)) ⟨by simp,by simp,by simp⟩ (by
  rintro i ⟨nx,put⟩ hi ⟨p1,p2,p3⟩;simp only at p1 p2 p3;left;have hm:=wB hi;have hok:=hR.ok _ hm;have hone:=hR.one _ hm;have hr:=hok.rng a n.lt;have hq:F136 p out[i] own (nth out[i] a)=some (insF p own a out[i]):=F136_eq hp hr hok n.ok hw;rw[yS hi]at p2 p3;unfold F131_3_B F131_3_C;simp only;cases put with
  |true=>
   have e:=p2 rfl;rw[if_pos rfl,ob,if_neg wE,ob,qm hi,ob,zJ (by rw[hok.len]; exact n.lt),ob,hq,ob,qH (by simp; omega) (by simp; omega),ob];exact⟨_,rfl,by simp; omega,fun _=> by rw[←e]; simp only[wZ,wR,vR,vG],fun h=> by cases h⟩
  |false=>
   have e:=p3 rfl;rw[if_neg wE,qm hi,ob,F81_ld (by rw[hok.len]; exact hw),if_pos (by rw[hok.len]; exact hone.1),ob,ob];by_cases h:a < ld out[i]
   ·have hd:decide ((a:Int) < (ld out[i]:Int))=true:=by simpa using h
    rw[ins_cons,if_pos h]at e;rw[hd,if_pos rfl,qH (by simp; omega) (by simp; omega),ob,ob,ob,zJ (by rw[hok.len]; exact n.lt),ob,hq,ob,qH (by simp; omega) (by simp; omega),ob];exact⟨_,rfl,by simp; omega,fun _=> by rw[←e]; simp only[wZ,wR,vR,vG],fun h=> by cases h⟩
   ·have hd:decide ((a:Int) < (ld out[i]:Int))=false:=by simpa using h
    rw[ins_cons,if_neg h]at e;rw[hd,if_neg wE,ob,ob,zJ (by rw[hok.len]; exact n.lt),ob,hq,ob,qH (by simp; omega) (by simp; omega),ob];exact⟨_,rfl,by simp; omega,(fun h=> by cases h),fun _=> by rw[←e]; simp only[wR,vR,vG]⟩) (by
  rintro⟨nx,put⟩ ⟨p1,p2,p3⟩;simp only at p1 p2 p3;refine⟨_,rfl,?_,by simp only; omega⟩;rw[List.drop_length]at p2 p3;cases put with
  |true=> simpa using p2 rfl
  |false=> simpa[ins]using p3 rfl)
 exact⟨t.1,t.2,g1,g2,g3⟩
theorem F131_ech{p:Int}{w:Nat}(hp:IsP p){rows:List (List Int)}(hr:Rows p w rows)(hw:w≤1048576)(hn:rows.length≤1000000):∃out,F131 p rows=some out∧zj p w rows out:=by
 have hpr:=hp.range;have hp1:1 < p:=by omega
 obtain⟨t,g1,g2,g3⟩:=qx (B:=F131_1_B p rows) (D:=F131_1_D) rows.length rfl (by omega) (fun i s=> zj p w (rows.take i) s∧s.length≤i) (fun t=> zj p w rows t∧t.length≤rows.length) (s:=[]) ⟨.nil p w,wD _⟩ (by
  rintro i out hi ⟨p1,p2⟩;left;have hrow:=hr _ (wB hi);have hrt:Rows p w (rows.take i):=fun r h=> hr r (wM h);have hrest:=zV (show 0 < p by omega) p1.red.ok hrow;have hl:¬(ld (rest p out rows[i]) < w)∨ld (rest p out rows[i]) < w:=by omega
  unfold F131_1_B;rw[qm hi,ob,F134_eq hpr p1.red hrow hw (by omega),ob,F81_ld (by rw[hrest.len]; exact hw),ob,hrest.len];rcases hl with hl|hl
  ·rw[if_neg hl,if_pos (by decide)]
   refine⟨out,rfl,?_,by omega⟩;rw[←wT hi];exact p1.skip hp1 hrt hrow fun j hj=> zx (by omega)
  ·rw[if_pos hl,if_neg (by omega)]
   have hne:=ld_ne (r:=rest p out rows[i]) (by rw[hrest.len]; exact hl);have hrg:=hrest.rng _ hl;obtain⟨k,k1,k2,k3,k4⟩:=F135_eq hp (x:=nth (rest p out rows[i]) (ld (rest p out rows[i]))) (by omega) hrg.2;have n:=p1.new hp1 hrow hl (fun j hj=> zx hj) k4;obtain⟨nx,put,q1,q2,q3⟩:=F131_3_eq hpr p1.red n hw (by omega);have hlen:((rest p out rows[i]).length:Int)=(w:Int):=by rw[hrest.len]
   have hsc:=scl_loop hpr ⟨k2,k3⟩ hrest hw (B:=F131_2_B p k) (D:=F131_2_D) (fun i row=> rfl) (fun i s=> rfl);have hput:=p1.put hp1 hrt hrow hl (fun j hj=> zx hj) k4;rw[wT hi]at hput;rw[zJ (by rw[hrest.len]; exact hl),ob,k1,ob,←hlen,hsc,ob,q1,ob];simp only;cases put with
   |true=>
    rw[if_pos rfl]at q2 ⊢;rw[q2];exact⟨_,rfl,hput,by rw[ins_len]; omega⟩
   |false=>
    rw[if_neg wE]at q2 ⊢;rw[qH (by simp; omega) (by simp; omega),ob,q2];exact⟨_,rfl,hput,by rw[ins_len]; omega⟩) (by
  rintro out ⟨p1,p2⟩;rw[vH]at p1;exact⟨_,rfl,p1,p2⟩)
 exact⟨t,g1,g2⟩
theorem F128_first{l:List (List Int)}{f:List Int→Option Bool}(P:List Int→Bool)(hl:l.length≤1048576)(hf:∀x∈l,f x=some (P x)):∃i:Int,F128 l f=some i∧((i= -1∧∀x∈l,P x=false)∨∃m:Nat,i=m∧m < l.length∧P (qy l m)=true):=by
 unfold F128;obtain⟨t,h1,h2⟩:=qx (B:=xM l f) (D:=F128_1_D l f) (hi:=l.length) l.length rfl (by omega) (fun i _=>∀k (hk:k < i) (h2:k < l.length),P l[k]=false) (fun t=>(t= .inl ()∧∀x∈l,P x=false)∨∃m:Nat,t= .inr (m:Int)∧m < l.length∧P (qy l m)=true) (s:=()) (fun k hk=> by omega) (by
  intro i _ hi hI;unfold xM;rw[qm hi,ob,hf _ (wB hi),ob];cases hp:P l[i]with
  |true=> right; exact⟨_,rfl,.inr ⟨i,rfl,hi,by rw[qQ hi]; exact hp⟩⟩
  |false=>
   left;refine⟨(),rfl,fun k hk h2=>?_⟩;by_cases e:k=i
   ·subst e; exact hp
   ·exact hI k (by omega) h2) (by
  intro _ hI;refine⟨.inl (),rfl,.inl ⟨rfl,fun x hx=>?_⟩⟩;obtain⟨k,hk,rfl⟩:=wN hx;exact hI k hk hk)
 rw[h1,ob];rcases h2 with⟨rfl,h2⟩|⟨m,rfl,h2⟩
 ·exact⟨_,rfl,.inl ⟨rfl,h2⟩⟩
 ·exact⟨_,rfl,.inr ⟨m,rfl,h2⟩⟩
theorem gstep_loop{p:Int}{w c d:Nat}(hp:2≤p∧p≤7){l:List (List Int)}{row:List Int}(hl:Rows p w l)(hd:d < l.length)(hrow:qy l d=row)(hc:c < w)(hw:w≤1048576)(hn:l.length≤1000000):
  forR 0 (l.length:Int) (F133_4_B p c d) F133_4_D l=some (jB p c d row l):=by
 have hdr:=hl _ (zL hd);rw[hrow]at hdr;rw[idx_loop (l:=l) (B:=F133_4_B p c d) (D:=F133_4_D) (fun i r=> if i=d then r else subv p r row (nth r c)) (by omega) (fun i hi s hs hk=>?_) (fun i s=> rfl)]
 ·unfold jB
  congr 1
  have:l.set d row=l:=by
   rw[←hrow,qQ hd]; exact List.set_getElem_self hd
  rw[this]
 ·have h1:s[i]'(by omega)=l[i]:=by
   have:=hk i;rw[if_neg (Nat.lt_irrefl _),List.getElem?_eq_getElem (by omega),List.getElem?_eq_getElem hi]at this;exact wA this
  have h2:s[d]'(by omega)=row:=by
   have:=hk d;rw[List.getElem?_eq_getElem (by omega),List.getElem?_eq_getElem hd]at this;rw[←hrow,qQ hd];split at this
   ·simpa using this
   ·exact wA this
  unfold F133_4_B;by_cases e:i=d
  ·subst e
   rw[if_pos rfl,if_pos rfl,←h1,List.set_getElem_self]
  ·have hr:=hl _ (wB hi)
   have hrc:=hr.rng c hc;rw[if_neg (by omega),if_neg e,qm (show i < s.length by omega),ob,qm (show d < s.length by omega),ob,h1,h2,zJ (by rw[hr.len]; exact hc),ob,F139_eq hp hrc hr hdr hw,ob,zh (by omega),ob]
theorem F133_ech{p:Int}{w:Nat}(hp:IsP p){rows:List (List Int)}(hr:Rows p w rows)(hw:w≤1048576)(hn:rows.length≤1000000):∃out,F133 p rows=some out∧zj p w rows out:=by
 have hpr:=hp.range;have hp1:1 < p:=by omega
 unfold F133;rw[cpy_loop (l:=rows) (B:=F133_1_B rows) (D:=F133_1_D) (by omega) (fun i hi s hs=> by
  unfold F133_1_B;have:=hr _ (wB hi);rw[qm hi,ob,F96_eq (by rw[this.len]; exact hw),ob,qH (by simp; omega) (by simp; omega),ob]) (fun i s=> rfl),ob]
 by_cases h0:(rows.length:Int)=0
 ·rw[if_pos h0]
  have:rows=[]:=wU (by omega);subst this;exact⟨_,rfl,.nil p w⟩
 rw[if_neg h0];have hpos:0 < rows.length:=by omega
 have e0:=qm hpos;simp only[Int.natCast_zero]at e0;have hw0:=(hr _ (wB hpos)).len;rw[show(0:Int)=((0:Nat):Int) from rfl,qm hpos,ob];obtain⟨t,g1,g2,g3,g4⟩:=qx (B:=F133_2_B p) (D:=F133_2_D) (hi:=(rows[0].length:Int)) w (by rw[hw0]) (by omega) (fun c s=>∃d:Nat,s.2=d∧d < s.1.length∧s.1.length=rows.length∧GInv p w rows c s.1 d)
  (fun t=> zj p w rows (t.1.take t.2.toNat)∧0≤t.2∧t.2≤t.1.length) (s:=(rows,0)) ⟨0,rfl,hpos,rfl,.start hr⟩ (by
  rintro c ⟨l,dd⟩ hc ⟨d,p1,p2,p3,g⟩;simp only at p1 p2 p3 g;subst p1;have hrl:∀x∈l.drop d,(fun r=> F137 r (c:Int)) x=some (!decide (nth x c=0)):=fun x hx=> by
   have hx':=g.ok x (yA hx);show F137 x c=_;unfold F137;rw[zJ (by rw[hx'.len]; exact hc),ob]
  obtain⟨at_,a1,a2⟩:=F128_first (fun x=> !decide (nth x c=0)) (l:=l.drop d) (by simp; omega) hrl;unfold F133_2_B;simp only;rw[if_pos ⟨by omega,by omega⟩,vA,a1,ob];rcases a2 with⟨rfl,a2⟩|⟨m,rfl,a2,a3⟩
  ·rw[if_pos (by decide)]
   left;refine⟨_,rfl,d,rfl,p2,p3,g.skip hc fun i h1 h2=>?_⟩;have hx:qy l i∈l.drop d:=by
    rw[qQ h2,List.mem_iff_getElem];exact⟨i - d,by simp; omega,by simp[show d+(i - d)=i by omega]⟩
   simpa using a2 _ hx
  ·have hml:m < l.length - d:=by simpa using a2
   have hj:d+m < l.length:=by omega
   have hrm:qy (l.drop d) m=qy l (d+m):=by rw[qQ a2,qQ hj,List.getElem_drop]
   rw[hrm]at a3;have hne:nth (qy l (d+m)) c≠0:=by simpa using a3
   have hrj:=g.ok _ (zL hj);have hrg:=hrj.rng c hc;obtain⟨k,k1,k2,k3,k4⟩:=F138_eq hp (x:=nth (qy l (d+m)) c) (by omega) hrg.2
   -- the swapped list
   have h2l:((l.set d (qy l (d+m))).set (d+m) (qy l d)).length=l.length:=by simp
   have h2:∀i,i < l.length→qy ((l.set d (qy l (d+m))).set (d+m) (qy l d)) i=qy l (if i=d+m then d else if i=d then d+m else i):=fun i hi=> by
    rw[qQ (by simp; exact hi)];by_cases e:i=d+m
    ·subst e; rw[if_pos rfl]; simp
    ·rw[if_neg e,List.getElem_set_ne (yM e)]
     by_cases e2:i=d
     ·subst e2; rw[if_pos rfl]; simp
     ·rw[if_neg e2,List.getElem_set_ne (yM e2),qQ hi]
   have gp:=g.put hp1 hc (show d≤d+m by omega) hj k4 h2l h2;have hrd:qy ((l.set d (qy l (d+m))).set (d+m) (qy l d)) d=qy l (d+m):=by
    rw[h2 d p2];by_cases e:d=d+m
    ·rw[if_pos e,←e]
    ·rw[if_neg e,if_pos rfl]
   generalize hl2:(l.set d (qy l (d+m))).set (d+m) (qy l d)=l2 at*;have hsc:=scl_loop hpr ⟨k2,k3⟩ hrj hw (B:=F133_3_B p k) (D:=F133_3_D) (fun i row=> rfl) (fun i s=> rfl);have ok2:Rows p w (l2.set d (scl p (qy l (d+m)) k)):=fun r hr'=> by
    rcases List.mem_or_eq_of_mem_set hr' with q|q
    ·obtain⟨i,hi,rfl⟩:=mem_row.1 q
     rw[h2 i (by omega)];refine g.ok _ (zL ?_);split
     ·exact p2
     ·split
      ·exact hj
      ·omega
    ·rw[q]; exact scl_ok (by omega) hrj k
   have hs3:(l2.set d (scl p (qy l (d+m)) k)).length=l.length:=by simp[h2l]
   have hr3:qy (l2.set d (scl p (qy l (d+m)) k)) d=scl p (qy l (d+m)) k:=by rw[qQ (by omega)]; simp
   have hgl:=gstep_loop hpr ok2 (show d < _ by omega) hr3 hc hw (by omega);have hgs:jB p c d (scl p (qy l (d+m)) k) (l2.set d (scl p (qy l (d+m)) k))=jB p c d (scl p (qy l (d+m)) k) l2:=by unfold jB; rw[List.set_set]
   rw[hgs]at hgl;have hlen4:(jB p c d (scl p (qy l (d+m)) k) l2).length=l.length:=by rw[gstep_len]; exact h2l
   have e1:getI l ((d+m:Nat):Int)=some (qy l (d+m)):=by rw[qm hj,qQ hj]
   have e2:getI l (d:Int)=some (qy l d):=by rw[qm p2,qQ p2]
   have e3:getI l2 (d:Int)=some (qy l (d+m)):=by rw[qm (by omega),←qQ (by omega),hrd]
   rw[if_neg (by omega),qo (by omega) (by omega),ob,show(d:Int)+(m:Int)=((d+m:Nat):Int) by omega,e1,ob,e2,ob,zh p2,ob,zh (by simp; omega),ob,hl2,e3,ob,
    zJ (by rw[hrj.len]; exact hc),ob,k1,ob,hsc,ob,zh (by omega),ob,hgl,ob,qo (by omega) (by omega),ob]
   by_cases hd1:(d:Int)+1=((jB p c d (scl p (qy l (d+m)) k) l2).length:Int)
   ·right
    rw[if_pos hd1];refine⟨_,rfl,?_,by simp only; omega,by simp only; omega⟩;simp only;rw[show((d:Int)+1).toNat=d+1 by omega];exact gp.done hp1 (.inr (by omega))
   ·left
    rw[if_neg hd1];refine⟨_,rfl,d+1,by simp only; omega,by simp only; have:=gp.dn; omega,by simp only; omega,gp⟩) (by
  rintro⟨l,dd⟩ ⟨d,p1,p2,p3,g⟩;simp only at p1 p2 p3 g;subst p1;refine⟨_,rfl,?_,by simp only; omega,by simp only; omega⟩;simp only;rw[vA];exact g.done hp1 (.inl rfl))
 rw[show((0:Nat):Int)=(0:Int) from rfl,g1,ob,if_pos ⟨g3,g4⟩];exact⟨_,rfl,g2⟩
theorem qZ{p:Int}{w:Nat}(hp:IsP p){rows:List (List Int)}(hr:Rows p w rows)(hw:w≤1048576)(hn:rows.length≤1000000):∃out,F131 p rows=some out∧F133 p rows=some out∧zj p w rows out:=by
 obtain⟨a,a1,a2⟩:=F131_ech hp hr hw hn;obtain⟨b,b1,b2⟩:=F133_ech hp hr hw hn;have:=a2.same (by have:=hp.range; omega) b2;subst this;exact⟨a,a1,b1,a2⟩
theorem F133_self{p:Int}{w:Nat}(hp:IsP p){E:List (List Int)}(h:Red p w E)(hw:w≤1048576)(hn:E.length≤1000000):F133 p E=some E:=by
 obtain⟨X, -,x2,x3⟩:=qZ hp h.ok hw hn;rw[x2,x3.same (by have:=hp.range; omega) (zj.self h)]
theorem qK{p:Int}{w:Nat}{E:List (List Int)}(h:Red p w E):E.length≤w:=by
 have h1:=h.leads;have key:∀ (l:List Nat) (b:Nat),l.Pairwise (·< ·)→(∀x∈l,b≤x∧x < w)→l.length+b≤max w b:=by
  intro l;induction l with
  |nil=> intro b _ _; simp; omega
  |cons a l ih=>
   intro b hp hx;obtain⟨p1,p2⟩:=vN.1 hp;have ha:=hx a wF;have:=ih (a+1) p2 fun x hx'=>⟨p1 x hx',(hx x (wH _ hx')).2⟩;simp only[vK];omega
 have:=key (E.map ld) 0 h1 fun x hx=> by
  obtain⟨r,hr,rfl⟩:=wL.1 hx;exact⟨vL _,(h.one r hr).1⟩
 simpa using this
theorem set_app_right{r s:List Int}{i:Nat}(x:Int):(r++s).set (r.length+i) x=r++s.set i x:=by
 rw[List.set_append_right _ _ (by omega)]; simp
theorem F125_1_eq{p:Int}{w:Nat}{rows:List (List Int)}(hr:Rows p w rows){x2:List Int}(hx:x2.length=w)(hw:w≤1000)(hn:rows.length≤1000):
  forR 0 (rows.length:Int) (F125_1_B p rows x2) (F125_1_D p rows x2) []=some (jp rows.length rows):=by
 have hl:=longs_len rows.length rows;obtain⟨t,g1,g2⟩:=qx (B:=F125_1_B p rows x2) (D:=F125_1_D p rows x2) rows.length rfl (by omega) (fun i s=> s=(jp rows.length rows).take i) (fun t=> t=jp rows.length rows) (s:=[]) (by simp) (by
  rintro i s hi rfl;left;have hri:=hr _ (wB hi);refine⟨(jp rows.length rows).take (i+1),?_,rfl⟩;unfold F125_1_B appZ;have hz:List.replicate ((rows.length:Int)).toNat (0:Int)=zv rows.length:=by simp[zv]
  have hzl:(zv rows.length).length=rows.length:=by simp[zv]
  have e:((x2.length:Int)+(i:Int))=((rows[i].length+i:Nat):Int):=by rw[hx,hri.len]; omega
  rw[qm hi,ob,F96_eq (by rw[hri.len]; omega),ob,if_pos ⟨by omega,by omega,by omega⟩,hz,qH (by rw[hri.len,hzl]; omega) (by rw[hri.len,hzl]; omega),ob,qo (by rw[hx]; omega) (by rw[hx]; omega),ob,e,qm (by rw[wP,hzl]; omega),ob,
   zh (by rw[wP,hzl]; omega),ob,qH (by simp; omega) (by simp; omega),ob,set_app_right]
  congr 2
  rw[←wT (show i < (jp rows.length rows).length by omega),longs_at,qQ hi];rfl) (by
  rintro s rfl;exact⟨_,rfl,by rw[wQ (by omega)]⟩)
 rw[g1,g2]
theorem F122_1_eq{p:Int}{w:Nat}{rows:List (List Int)}(hr:Rows p w rows)(hw:w≤1000)(hn:rows.length≤1000):
  forR 0 (rows.length:Int) (F122_1_B p rows.length rows) (F122_1_D p rows.length rows) ([],0)=some (jp rows.length rows,if rows.length=0 then 0 else(w:Int)):=by
 have hl:=longs_len rows.length rows;obtain⟨t,g1,g2⟩:=qx (B:=F122_1_B p rows.length rows) (D:=F122_1_D p rows.length rows) rows.length rfl (by omega) (fun i s=> s=((jp rows.length rows).take i,if i=0 then 0 else(w:Int))) (fun t=> t=(jp rows.length rows,if rows.length=0 then 0 else(w:Int))) (s:=([],0)) (by simp) (by
  rintro i s hi rfl;left;have hri:=hr _ (wB hi);refine⟨((jp rows.length rows).take (i+1),if i+1=0 then 0 else(w:Int)),?_,rfl⟩;unfold F122_1_B;simp only;have hzl:(zv rows.length).length=rows.length:=by simp[zv]
  rw[mkL_ok rows.length rfl (by omega) (by omega),ob]
  change (getI (zv rows.length) (i:Int)).bind _=_
  rw[qm (by omega),ob]
  change (setI (zv rows.length) (i:Int) 1).bind _=_
  rw[zh (by omega),ob,qm hi,ob,F94_eq (by rw[hri.len]; omega),ob,qH (by simp[zv,hri.len]; omega) (by simp[zv,hri.len]; omega),ob,qH (by simp; omega) (by simp; omega),ob,if_neg (by omega),hri.len]
  congr 3
  rw[←wT (show i < (jp rows.length rows).length by omega),longs_at,qQ hi];rfl) (by
  rintro s rfl;exact⟨_,rfl,by rw[wQ (by omega)]⟩)
 rw[g1,g2]
theorem tails_take{w i:Nat}{E:List (List Int)}(hi:i < E.length):zX w (E.take (i+1))=if w≤ld E[i]then zX w (E.take i)++[E[i].drop w]else zX w (E.take i):=by
 unfold zX;rw[←wT hi,List.filter_append,yP];by_cases h:w≤ld E[i]
 ·rw[if_pos h]; simp[h]
 ·rw[if_neg h]; simp[h]
theorem tails_len{w:Nat}{E:List (List Int)}:(zX w E).length≤E.length:=by
 unfold zX;rw[vP]; exact List.length_filter_le _ _
theorem F122_2_eq{p:Int}{w n:Nat}{E:List (List Int)}(h:Red p (w+n) E)(hw:w+n≤10000):
  forR 0 (E.length:Int) (xe w E) (xN w E) []=some (zX w E):=by
 have hE:=qK h;obtain⟨t,g1,g2⟩:=qx (B:=xe w E) (D:=xN w E) E.length rfl (by omega) (fun i s=> s=zX w (E.take i)) (fun t=> t=zX w E) (s:=[]) (by simp[zX]) (by
  rintro i s hi rfl;left;have hk:=h.ok _ (wB hi);have ho:=h.one _ (wB hi);have htl:(zX w (E.take i)).length≤10000:=by have:=tails_len (w:=w) (E:=E.take i); simp at this; omega
  refine⟨zX w (E.take (i+1)),?_,rfl⟩;rw[tails_take hi];unfold xe;rw[qm hi,ob,F81_ld (by rw[hk.len]; omega),if_pos (by rw[hk.len]; exact ho.1),ob];by_cases q:w≤ld E[i]
  ·rw[if_pos (by omega),if_pos q]
   unfold slI;rw[if_pos ⟨by omega,by rw[hk.len]; omega,yC _⟩,ob,vA,vA,vH,F94_eq (by simp[hk.len]; omega),ob,qH (by simp; omega) (by simp; omega),ob]
  ·rw[if_neg (by omega),if_neg q]) (by
  rintro s rfl;exact⟨_,rfl,by rw[vH]⟩)
 rw[g1,g2]
theorem isZero_take{r:List Int}{w:Nat}(h:w≤r.length):(∀x∈r.take w,x=0)↔w≤ld r:=by
 constructor
 ·intro hx
  refine Nat.le_of_not_lt fun q=>?_;have hl:ld r < r.length:=by omega
  refine ld_ne hl (by rw[qU hl]; exact hx _ (List.mem_take_iff_getElem.2 ⟨ld r,by omega,rfl⟩))
 ·intro q x hx
  obtain⟨i,hi,rfl⟩:=List.mem_take_iff_getElem.1 hx;have:=zx (r:=r) (j:=i) (by omega)
  rwa[qU (by omega)]at this
theorem F125_2_eq{p:Int}{w n:Nat}{E:List (List Int)}(h:Red p (w+n) E)(hw:w+n≤10000){x2:List Int}(hx:x2.length=w):
  forR 0 (E.length:Int) (F125_2_B p x2 E) (F125_2_D p x2 E) []=some (zX w E):=by
 have hE:=qK h;obtain⟨t,g1,g2⟩:=qx (B:=F125_2_B p x2 E) (D:=F125_2_D p x2 E) E.length rfl (by omega) (fun i s=> s=zX w (E.take i)) (fun t=> t=zX w E) (s:=[]) (by simp[zX]) (by
  rintro i s hi rfl;left;have hk:=h.ok _ (wB hi);have ho:=h.one _ (wB hi);have htl:(zX w (E.take i)).length≤10000:=by have:=tails_len (w:=w) (E:=E.take i); simp at this; omega
  refine⟨zX w (E.take (i+1)),?_,rfl⟩;rw[tails_take hi];unfold F125_2_B slI;rw[qm hi,ob,hx,if_pos ⟨by omega,by omega,by rw[hk.len]; omega⟩,ob,vA,Int.toNat_zero,vI];rcases((F92_tells (l:=E[i].take w) (by simp; omega)).iff (isZero_take (by rw[hk.len]; omega))).case with⟨e,q⟩|⟨e,q⟩
  ·rw[e,ob,if_pos rfl,if_pos q,if_pos ⟨by omega,by rw[hk.len]; omega,yC _⟩,ob,vA,vH,qH (by simp; omega) (by simp; omega),ob]
  ·rw[e,ob,if_neg wE,if_neg q]) (by
  rintro s rfl;exact⟨_,rfl,by rw[vH]⟩)
 rw[g1,g2]
theorem kernel_same{p:Int}{w:Nat}(hp:IsP p){rows:List (List Int)}(hr:Rows p w rows)(hw:w≤1000)(hn:rows.length≤1000):∃K,F122 p rows.length rows=some K∧F125 p rows=some K∧Red p rows.length K:=by
 have hp1:1 < p:=by have:=hp.range; omega
 unfold F122 F125;rw[F122_1_eq hr hw hn,ob];simp only;by_cases h0:rows.length=0
 ·have:rows=[]:=wU h0
  subst this;have e:(jp ([]:List (List Int)).length [])=[]:=by simp[jp]
  obtain⟨E,e1, -,e3⟩:=qZ hp (rows:=[]) (w:=0+0) (fun r h=>(nomatch h)) (by omega) (by simp);have hE:E=[]:=wU (by have:=qK e3.red; omega);subst hE;rw[e,e1,ob,if_pos (by simp),if_pos (by simp)];have:=F122_2_eq (w:=0) (n:=0) e3.red (by omega);have h2:forR 0 ((([]:List (List Int)).length:Nat):Int) (xe 0 []) (xN 0 []) []=some []:=this;rw[h2];exact⟨[],rfl,rfl,⟨fun r h=>(nomatch h),fun r h=>(nomatch h),.nil⟩⟩
 ·rw[if_neg h0,if_neg (by omega)]
  obtain⟨E,e1,e2,e3⟩:=qZ hp (longs_ok hp1 hr) (by omega) (by rw[longs_len]; omega);have hpos:0 < rows.length:=by omega
  have hx0:=(hr _ (wB hpos)).len;have ht:=tails_red e3.red;rw[show(0:Int)=((0:Nat):Int) from rfl,qm hpos,ob,show((0:Nat):Int)=(0:Int) from rfl,e1,ob,F122_2_eq e3.red (by omega),ob,F125_1_eq hr hx0 hw hn,ob,e2,ob,F125_2_eq e3.red (by omega) hx0,ob,F133_self hp ht (by omega) (by have:=qK ht; omega),ob];exact⟨_,rfl,rfl,ht⟩
theorem RowOK.vec{p w:Int}{row:List Int}(h:RowOK p w row):qJ p w.toNat row:=by
 have h1:=h.1;refine⟨by omega,fun j hj=>?_⟩;have hj':j < row.length:=by omega
 rw[qU hj'];have:=h.2 _ (wB hj');omega
theorem ValidC.dim{x:qh}(h:ValidC x){n:Nat}(hn:n < x.Dims.length):0≤x.Dims.getD n 0∧x.Dims.getD n 0≤8:=h.dims _ (qR hn 0)
theorem F99_at{x:qh}(hs:x.Dims.length≤1048576){n:Nat}(hn:n < x.Dims.length):F99 x (n:Int)=some (x.Dims.getD n 0):=by
 unfold F99;rw[qo (by omega) (by omega),ob,F54_eq,ob,if_pos (by simp; omega),qn hn 0,ob]
theorem F102_at{x:qh}(hs:x.Dims.length≤1048576){n:Nat}(hn:n < x.Dims.length):F102 x (n:Int)=some (x.Dims.getD n 0):=by
 unfold F102;rw[F86_eq hs,ob,jQ,ob,if_pos (by simp; omega),qn hn 0,ob]
theorem kernel_none{p:Int}(hp:IsP p){n:Nat}(hn:n≤1000):F122 p (n:Int) (List.replicate n [])=some (xk n):=by
 have hp1:1 < p:=by have:=hp.range; omega
 have hr:Rows p 0 (List.replicate n ([]:List Int)):=fun r hr=> by
  obtain⟨_,rfl⟩:=List.mem_replicate.1 hr;exact⟨rfl,fun j hj=> absurd hj (yN _)⟩
 have hl:(List.replicate n ([]:List Int)).length=n:=by simp
 have e0:=F122_1_eq hr (by omega) (by omega);rw[hl]at e0;have hlong:jp n (List.replicate n ([]:List Int))=xk n:=by
  unfold jp xk;refine yT fun i hi=>?_;have:i < n:=vC.1 hi;simp[qy,this]
 have hu:=units_red hp1 n;obtain⟨E,e1, -,e3⟩:=qZ hp hu.ok (by omega) (by rw[units_len]; omega);have hE:=e3.same hp1 (zj.self hu);subst hE;have ht:zX 0 (xk n)=xk n:=by
  unfold zX;rw[List.filter_eq_self.2 (fun r _=> by simp)]
  conv=> rhs; rw[←List.map_id (xk n)]
  exact yT fun r _=> rfl
 have h2:=F122_2_eq (w:=0) (n:=n) (by rw[wV]; exact hu) (by omega);rw[ht]at h2;have h2':forR 0 ((xk n).length:Int) (xe 0 (xk n)) (xN 0 (xk n)) []=some (xk n):=h2;unfold F122;rw[e0,ob];have hz:(if n=0 then(0:Int)else((0:Nat):Int))=0:=by split <;> rfl
 simp only;rw[hz,hlong,e1,ob,h2',ob]
theorem F76_0{x:qh}(hs:x.Dims.length≤1048576)(hl:0 < x.Dims.length){n:Nat}(hn:x.Dims.getD 0 0=n)(hn8:n≤1000):F76 x 0=some (List.replicate n []):=by
 unfold F76;rw[qo (by omega) (by omega),ob,F54_eq,ob,if_neg (by simp)];have h99:F99 x 0=some (n:Int):=by have:=F99_at hs hl; rw[hn]at this; exact this
 obtain⟨t,g1,g2⟩:=qW (S:=F76_1_S x 0) (fun s=>(n - s.2).toNat) (fun s=> 0≤s.2∧s.2≤n∧s.1=List.replicate s.2.toNat []) (fun t=> t=List.replicate n []) (s:=([],0)) ⟨yC _,by omega,rfl⟩ (by
  rintro⟨l,j⟩ ⟨p1,p2,p3⟩;simp only at p1 p2 p3;subst p3;unfold F76_1_S;simp only;rw[h99,ob];by_cases hj:j < (n:Int)
  ·left
   rw[if_pos hj,qH (by simp; omega) (by simp; omega),ob,qo (by omega) (by omega),ob];refine⟨_,rfl,⟨by simp only; omega,by simp only; omega,?_⟩,by simp only; omega⟩;simp only;rw[show(j+1).toNat=j.toNat+1 from by omega,List.replicate_succ']
  ·right
   rw[if_neg hj];have:j.toNat=n:=by omega
   rw[this];exact⟨_,rfl,rfl⟩)
 rw[g1,ob,g2]
theorem F115_ld{r:List Int}(hl:r.length≤1048576)(h:ld r < r.length):F115 r (fun x=> F123 x)=some (ld r:Int):=by
 unfold F115;obtain⟨t,g1,g2⟩:=qx (B:=xO r (fun x=> F123 x)) (D:=F115_1_D r (fun x=> F123 x)) r.length rfl (by omega) (fun i _=> i≤ld r) (fun t=> t= .inr (ld r:Int)) (s:=()) (vL _) (by
  rintro i _ hi hI;unfold xO F123;rw[zJ hi,ob,ob];by_cases q:nth r i=0
  ·left
   rw[if_neg (by simp[q])];refine⟨(),rfl,?_⟩;rcases wW i (ld r)with q2|q2
   ·exact q2
   ·have:i=ld r:=by omega
    subst this;exact absurd q (ld_ne hi)
  ·right
   rw[if_pos (by simp[q])];have:ld r=i:=by
    rcases wW i (ld r)with q2|q2
    ·exact absurd (zx q2) q
    ·omega
   exact⟨_,rfl,by rw[this]⟩) (by
  rintro _ hI;omega)
 rw[g1,ob,g2]
theorem F101_eq{p:Int}{w:Nat}{K:List (List Int)}(h:Red p w K)(hw:w≤1000):F101 K=some (K.map fun r=>(ld r:Int)):=by
 unfold F101;have hk:=qK h;obtain⟨t,g1,g2⟩:=qx (B:=F101_1_B K) (D:=F101_1_D K) K.length rfl (by omega) (fun i s=> s=(K.map fun r=>(ld r:Int)).take i) (fun t=> t=K.map fun r=>(ld r:Int)) (s:=[]) (by simp) (by
  rintro i s hi rfl;left;have hok:=h.ok _ (wB hi);have hone:=h.one _ (wB hi);refine⟨(K.map fun r=>(ld r:Int)).take (i+1),?_,rfl⟩;unfold F101_1_B;rw[qm hi,ob,F115_ld (by rw[hok.len]; omega) (by rw[hok.len]; exact hone.1),ob,qH (by simp; omega) (by simp; omega),ob]
  congr 2
  rw[←wT (show i < (K.map fun r=>(ld r:Int)).length by simpa using hi)];simp) (by
  rintro s rfl;exact⟨_,rfl,by rw[wQ (by simp)]⟩)
 rw[g1,ob,g2]
theorem zE{α β:Type}{l:List α}(g:α→β){B:Int→List β→Option (List β⊕List β)}{D:Int→List β→Option (List β)}{s0:List β}(hl:l.length≤1000000)
  (hB:∀ (k:Nat) (hk:k < l.length) (s:List β),s.length=s0.length+k→B k s=some (.inl (s++[g l[k]]))) (hD:∀i s,D i s=some s):forR 0 (l.length:Int) B D s0=some (s0++l.map g):=by
 have hlen:l.length < 4611686018427387904:=by omega
 obtain⟨t,g1,g2⟩:=qx (B:=B) (D:=D) l.length rfl hlen (fun i s=> s=s0++(l.map g).take i) (fun t=> t=s0++l.map g) (s:=s0) (by simp) (by
  rintro i s hi rfl;left;refine⟨_,hB i hi _ (by simp; omega),?_⟩;have:i < (l.map g).length:=by simpa using hi
  rw[←wT this];simp) (by
  rintro s rfl;exact⟨_,hD _ _,by rw[wQ (by simp)]⟩)
 rw[g1,g2]
def coll{β:Type}(n:Nat)(f:Nat→List β):List β:=(List.range n).flatMap f
theorem xu{β:Type}(n:Nat)(f:Nat→List β):coll (n+1) f=coll n f++f n:=by
 unfold coll; rw[List.range_succ,List.flatMap_append]; simp
theorem coll_len{β:Type}{f:Nat→List β}(h:∀i,(f i).length≤1):∀n,(coll n f).length≤n
 |0=> by simp[coll]
 |n+1=> by rw[xu,wP]; have:=coll_len h n; have:=h n; omega
theorem mem_coll{β:Type}{n:Nat}{f:Nat→List β}{b:β}:b∈coll n f↔∃i,i < n∧b∈f i:=by simp[coll]
theorem coll_map{β γ:Type}{n:Nat}{f:Nat→List β}(g:β→γ):(coll n f).map g=coll n fun i=>(f i).map g:=by simp[coll,List.map_flatMap]
theorem forR_coll{β:Type}{n:Nat}(f:Nat→List β){B:Int→List β→Option (List β⊕List β)}{D:Int→List β→Option (List β)}(hn:n≤1000000)(h1:∀i,(f i).length≤1)
  (hB:∀ (i:Nat) (s:List β),i < n→s.length≤i→B i s=some (.inl (s++f i))) (hD:∀i s,D i s=some s):forR 0 (n:Int) B D []=some (coll n f):=by
 have hlen:n < 4611686018427387904:=by omega
 obtain⟨t,g1,g2⟩:=qx (B:=B) (D:=D) n rfl hlen (fun i s=> s=coll i f) (fun t=> t=coll n f) (s:=[]) (by simp[coll]) (by
  rintro i s hi rfl;left;exact⟨_,hB i _ hi (coll_len h1 i),(xu i f).symm⟩) (by
  rintro s rfl;exact⟨_,hD _ _,rfl⟩)
 rw[g1,g2]
theorem loopW_coll{β:Type}{n:Nat}(f:Nat→List β){S:List β×Int→Option ((List β×Int)⊕List β)}(h1:∀i,(f i).length≤1)
  (hB:∀ (i:Nat) (s:List β),i < n→s.length≤i→S (s,(i:Int))=some (.inl (s++f i,(i:Int)+1))) (hD:∀s:List β,S (s,(n:Int))=some (.inr s)):qV S ([],0)=some (coll n f):=by
 obtain⟨t,g1,g2⟩:=qW (S:=S) (fun s=>(n - s.2).toNat) (fun s=>∃i:Nat,s.2=i∧i≤n∧s.1=coll i f) (fun t=> t=coll n f) (s:=([],0)) ⟨0,rfl,vL _,by simp[coll]⟩ (by
  rintro⟨s,j⟩ ⟨i,p1,p2,p3⟩;simp only at p1 p3;subst p1; subst p3;by_cases hi:i < n
  ·left
   refine⟨_,hB i _ hi (coll_len h1 i),⟨i+1,by simp,hi,(xu i f).symm⟩,by simp only; omega⟩
  ·right
   have:i=n:=by omega
   subst this;exact⟨_,hD _,rfl⟩)
 rw[g1,g2]
def dm(x:qd)(n:Nat):Nat:=(x.Complex.Dims.getD n 0).toNat
def lv(x:qd)(n j:Nat):Int:=(x.Levels.getD n []).getD j 0
def mt(x:qd)(n:Nat):List (List Int):=x.Complex.Maps.getD (n - 1) []
theorem zo{x:qd}(h:qI x){n:Nat}(hn:n < x.Levels.length):x.Complex.Dims.getD n 0=(dm x n:Int)∧dm x n≤8∧(x.Levels.getD n []).length=dm x n:=by
 have h1:=h.vc.dim (n:=n) (by rw[←h.ll]; exact hn);have h2:=(h.lv n hn).1;unfold dm; omega
theorem F99_dm{x:qd}(hs:qN x)(h:qI x){n:Nat}(hn:n < x.Levels.length):F99 x.Complex (n:Int)=some (dm x n:Int):=by
 rw[F99_at hs.c.d (by rw[←h.ll]; exact hn),(zo h hn).1]
theorem F102_dm{x:qd}(hs:qN x)(h:qI x){n:Nat}(hn:n < x.Levels.length):F102 x.Complex (n:Int)=some (dm x n:Int):=by
 rw[F102_at hs.c.d (by rw[←h.ll]; exact hn),(zo h hn).1]
theorem F77_lv{x:qd}(h:qI x){n j:Nat}(hn:n < x.Levels.length)(hj:j < dm x n):F77 x (n:Int) (j:Int)=some (lv x n j):=
 F77_eq hn (by rw[(zo h hn).2.2]; exact hj)
def ze(x:qd)(n:Nat)(q:Int):List Int:=coll (dm x n) fun j=> if lv x n j≤q then [(j:Int)]else []
theorem one_len{c:Prop}[Decidable c]{β:Type}(a:β):(if c then [a]else []).length≤1:=by split <;> simp
theorem keptL_len{x:qd}{n:Nat}{q:Int}:(ze x n q).length≤dm x n:=coll_len (fun j=> one_len _) _
theorem xn{x:qd}{n:Nat}{q v:Int}:v∈ze x n q↔∃j,j < dm x n∧lv x n j≤q∧v=(j:Int):=by
 unfold ze;rw[mem_coll];constructor
 ·rintro⟨j,h1,h2⟩
  split at h2
  ·rename_i hq; exact⟨j,h1,hq,by simpa using h2⟩
  ·simp at h2
 ·rintro⟨j,h1,h2,rfl⟩
  exact⟨j,h1,by simp[h2]⟩
theorem F310_eq{x:qd}(hs:qN x)(h:qI x){n:Nat}(hn:n < x.Levels.length)(q:Int):F310 x (n:Int) q=some (ze x n q):=by
 unfold F310 ze;have hd:=(zo h hn).2.1;rw[loopW_coll (n:=dm x n) (fun j=> if lv x n j≤q then [(j:Int)]else []) (fun j=> one_len _) (by
  intro i s hi hl;unfold F310_1_S;simp only;rw[F99_dm hs h hn,ob,if_pos (by omega),F77_lv h hn hi,ob];by_cases c:lv x n i≤q
  ·rw[if_pos c,if_pos c,qH (by simp; omega) (by simp; omega),ob,qo (by omega) (by omega),ob]
  ·rw[if_neg c,if_neg c,qo (by omega) (by omega),ob,vM]) (by
  intro s;unfold F310_1_S;simp only;rw[F99_dm hs h hn,ob,if_neg (by omega)]),ob]
theorem F202_eq{x:qd}(hs:qN x)(h:qI x){n:Nat}(hn:n < x.Levels.length)(q:Int):F202 x (n:Int) q=some (ze x n q):=by
 unfold F202 ze;have hd:=zo h hn;have hll:=h.ll;rw[F86_eq hs.c.d,ob,jQ,ob,if_pos (by simp; omega),qn hn [],ob,hd.2.2,
  forR_coll (n:=dm x n) (B:=F202_1_B q (x.Levels.getD n [])) (D:=F202_1_D q (x.Levels.getD n [])) (fun j=> if lv x n j≤q then [(j:Int)]else []) (by omega) (fun j=> one_len _) (by
  intro i s hi hl;unfold F202_1_B;rw[qn (by rw[hd.2.2]; exact hi) 0,ob]
  change (if lv x n i≤q then _ else _)=_
  by_cases c:lv x n i≤q
  ·rw[if_pos c,if_pos c,qH (by simp; omega) (by simp; omega),ob]
  ·rw[if_neg c,if_neg c,vM]) (by intro i s; rfl),ob]
theorem F202_out{x:qd}(hs:qN x)(h:qI x){n:Int}(hn:n < 0∨x.Levels.length≤n)(q:Int):F202 x n q=some []:=by
 unfold F202;have hll:=h.ll;rw[F86_eq hs.c.d,ob,jQ,ob,if_neg (by simp; omega)]
theorem F203_eq{l:List Int}(hl:l.length≤1000000)(v:Int):F203 l v=some (decide (v∈l)):=by
 unfold F203 F211;have hlen:l.length < 4611686018427387904:=by omega
 obtain⟨t,g1,g2⟩:=qx (B:=F211_1_B l v) (D:=F211_1_D l v) l.length rfl hlen (fun i _=> v∉l.take i) (fun t=>(t= .inl ()∧v∉l)∨∃m:Nat,t= .inr (m:Int)∧v∈l) (s:=()) (by simp) (by
  rintro i _ hi hI;unfold F211_1_B;rw[qm hi,ob];by_cases q:v=l[i]
  ·right
   rw[if_pos q];exact⟨_,rfl,.inr ⟨i,rfl,by rw[q]; exact wB hi⟩⟩
  ·left
   rw[if_neg q];refine⟨(),rfl,fun hr=>?_⟩;rw[←wT hi]at hr;rcases wK.1 hr with h|h
   ·exact hI h
   ·exact q (by simpa using h)) (by
  rintro _ hI;rw[vH]at hI;exact⟨_,rfl,.inl ⟨rfl,hI⟩⟩)
 rw[g1,ob];rcases g2 with⟨rfl,h⟩|⟨m,rfl,h⟩
 ·simp[h]
 ·simp[h]
def farL(x:qd)(n:Nat)(t:Int):List Int:=coll (if n=0 then 0 else dm x (n - 1)) fun j=> if t < lv x (n - 1) j then [(j:Int)]else []
theorem mem_farL{x:qd}{n:Nat}{t v:Int}(h:v∈farL x n t):n≠0∧∃j,j < dm x (n - 1)∧v=(j:Int):=by
 unfold farL at h;rw[mem_coll]at h;obtain⟨j,h1,h2⟩:=h;split at h1
 ·omega
 ·rename_i hn
  split at h2
  ·exact⟨hn,j,h1,by simpa using h2⟩
  ·simp at h2
theorem farL_len{x:qd}(h:qI x){n:Nat}(hn:n≤x.Levels.length){t:Int}:(farL x n t).length≤8:=by
 have h1:(farL x n t).length≤if n=0 then 0 else dm x (n - 1):=coll_len (fun j=> one_len _) _
 split at h1
 ·omega
 ·have:=zo h (n:=n - 1) (by omega)
  omega
theorem F184_1_eq{x:qd}(hs:qN x)(h:qI x){n:Nat}(hn:n≤x.Levels.length){r q:Int}(hr: -100≤r∧r≤100)(hq: -100≤q∧q≤100)(k:List Int):
  ∃d,(chk ((n:Int) - 1))=some ((n:Int) - 1)∧F102 x.Complex ((n:Int) - 1)=some d∧forR 0 d (F184_1_B x r (n:Int) q k d) (F184_1_D x r (n:Int) q k d) []=some (farL x n (q - r)):=by
 have hll:=hs.l;have hl:=h.ll;rcases Nat.eq_zero_or_pos n with h0|h0
 ·subst h0
  refine⟨0,qo (by omega) (by omega),?_,?_⟩
  ·unfold F102
   rw[F86_eq hs.c.d,ob,jQ,ob,if_neg (by simp)]
  ·rfl
 ·obtain⟨m,rfl⟩:∃m,n=m+1:=⟨n - 1,by omega⟩
  have hm:m < x.Levels.length:=by omega
  have hd:=zo h hm;have e:((m+1:Nat):Int) - 1=(m:Int):=by omega
  refine⟨(dm x m:Int),qo (by omega) (by omega),by rw[e,F102_dm hs h hm],?_⟩;have hk:=keptL_len (x:=x) (n:=m) (q:=q - r);unfold farL;rw[if_neg (by omega),vV];refine forR_coll _ (by omega) (fun j=> one_len _) (fun i s hi hls=>?_) (by intro i s; rfl);unfold F184_1_B;rw[qo (by omega) (by omega),ob,qo (by omega) (by omega),ob,e,F202_eq hs h hm,ob,F203_eq (by omega),ob];by_cases c:q - r < lv x m i
  ·rw[if_neg (by simp only[decide_eq_true_eq]; rw[xn]; rintro⟨j, -,h2,h3⟩; have:i=j:=(by omega); subst this; omega),if_pos c,qH (by simp; omega) (by simp; omega),ob]
  ·rw[if_pos (by simp only[decide_eq_true_eq]; rw[xn]; exact⟨i,hi,by omega,rfl⟩),if_neg c,vM]
def rowF(x:qd)(n:Nat)(t:Int)(i:Int):List Int:=(farL x n t).map fun j=> nth (qy (mt x n) i.toNat) j.toNat
def rowsF(x:qd)(n:Nat)(r q:Int):List (List Int):=(ze x n q).map (rowF x n (q - r))
theorem mt_ok{x:qd}(h:qI x){m:Nat}(hm:m+1 < x.Levels.length):m < x.Complex.Maps.length∧(mt x (m+1)).length=dm x (m+1)∧Rows x.Complex.Prime (dm x m) (mt x (m+1)):=by
 have hml:=h.vc.ml;have hl:=h.ll;have h1:m < x.Complex.Maps.length:=by omega
 have ht:=h.vc.tab m h1;have hd:=zo h hm;refine⟨h1,?_,fun r hr=>(ht.2 r hr).vec⟩;have h2:=ht.1;rw[hd.1]at h2;show(x.Complex.Maps.getD (m+1 - 1) []).length=_;rw[vV]; omega
theorem keep_get{x:qd}{n:Nat}{q:Int}{k:Nat}(hk:k < (ze x n q).length):∃i,i < dm x n∧(ze x n q)[k]=(i:Int):=by
 obtain⟨i,h1, -,h2⟩:=xn.1 (wB hk);exact⟨i,h1,h2⟩
theorem far_get{x:qd}{n:Nat}{t:Int}{k:Nat}(hk:k < (farL x n t).length):n≠0∧∃j,j < dm x (n - 1)∧(farL x n t)[k]=(j:Int):=mem_farL (wB hk)
theorem nth_mapg{α:Type}{l:List α}{g:α→Int}{j:Nat}(hj:j < l.length):nth (l.map g) j=g l[j]:=by simp[nth,hj]
theorem rowsF_ok{x:qd}(h:qI x){n:Nat}(hn:n≤x.Levels.length)(r q:Int)(hk:n=x.Levels.length→ze x n q=[]):Rows x.Complex.Prime (farL x n (q - r)).length (rowsF x n r q):=by
 intro row hrow;unfold rowsF at hrow;obtain⟨v,hv,rfl⟩:=wL.1 hrow;obtain⟨i,hi, -,rfl⟩:=xn.1 hv;have hn':n < x.Levels.length:=by
  rcases wW n x.Levels.length with c|c
  ·exact c
  ·rw[hk (by omega)]at hv; simp at hv
 refine⟨by simp[rowF],fun j hj=>?_⟩;unfold rowF;rw[nth_mapg hj];obtain⟨n0,c,hc,hce⟩:=far_get hj;rw[hce,vA,vA];obtain⟨m,rfl⟩:∃m,n=m+1:=⟨n - 1,by omega⟩;obtain⟨-,h2,h3⟩:=mt_ok h hn';have h4:=h3 _ (zL (show i < (mt x (m+1)).length by omega));exact h4.rng c (by simpa using hc)
theorem F280_2_eq{x:qd}(hs:qN x)(h:qI x){n:Nat}(hn:n < x.Levels.length){r q:Int}(hr: -100≤r∧r≤100)(hq: -100≤q∧q≤100)(d:Int)(m5:List (List Int))(hm5:n≠0→m5=mt x n)(o:List (List Int)){k:Nat}(hk:k < (ze x n q).length):
  qV (F280_2_S x r (n:Int) q d (ze x n q) m5 o (k:Int)) ([],0)=some (rowF x n (q - r) (ze x n q)[k]):=by
 obtain⟨i,hi,hie⟩:=keep_get hk;unfold rowF farL;rw[coll_map];refine loopW_coll _ (fun j=> by rw[vP]; exact one_len _) (fun j s hj hl=>?_) fun s=>?_
 ·split at hj
  ·omega
  ·rename_i n0
   obtain⟨m,rfl⟩:∃m,n=m+1:=⟨n - 1,by omega⟩;have hm:m < x.Levels.length:=by omega
   have hsl0:=hs.l;obtain⟨h1,h2,h3⟩:=mt_ok h hn;have hd:=zo h hm;rw[vV]at hj;have e:((m+1:Nat):Int) - 1=(m:Int):=by omega
   have hrow:=h3 _ (zL (show i < (mt x (m+1)).length by omega));have hrl:=hrow.len;have hm5':=hm5 n0;subst hm5';unfold F280_2_S;simp only;rw[if_pos (by omega),qo (by omega) (by omega),ob,e,F99_dm hs h hm,ob,if_pos (by omega),F77_lv h hm hj,ob,qo (by omega) (by omega),ob,vV];by_cases c:q - r < lv x m j
   ·rw[if_pos c,if_pos c,qm hk,ob,hie,qn (show i < (mt x (m+1)).length by omega) [],ob,qn (show j < ((mt x (m+1)).getD i []).length by unfold qy at hrl; omega) 0,ob,qH (by simp; omega) (by simp; omega),ob,qo (by omega) (by omega),ob]
    rfl
   ·rw[if_neg c,if_neg c,qo (by omega) (by omega),ob,List.map_nil,vM]
 ·unfold F280_2_S
  simp only;by_cases n0:n=0
  ·subst n0
   rw[if_neg (by simp)]
  ·obtain⟨m,rfl⟩:∃m,n=m+1:=⟨n - 1,by omega⟩
   have hm:m < x.Levels.length:=by omega
   have hsl0:=hs.l;have e:((m+1:Nat):Int) - 1=(m:Int):=by omega
   rw[if_pos (by omega),qo (by omega) (by omega),ob,e,F99_dm hs h hm,ob,if_neg n0,vV,if_neg (by omega)]
theorem F280_1_eq{x:qd}(hs:qN x)(h:qI x){n:Nat}(hn:n < x.Levels.length){r q:Int}(hr: -100≤r∧r≤100)(hq: -100≤q∧q≤100)(d:Int)(m5:List (List Int))(hm5:n≠0→m5=mt x n):
  forR 0 ((ze x n q).length:Int) (F280_1_B x r (n:Int) q d (ze x n q) m5) (F280_1_D x r (n:Int) q d (ze x n q) m5) []=some (rowsF x n r q):=by
 have hk:=keptL_len (x:=x) (n:=n) (q:=q);have hd:=zo h hn;rw[zE (rowF x n (q - r)) (by omega) (fun k hk s hsl=> by
  unfold F280_1_B;rw[F280_2_eq hs h hn hr hq d m5 hm5 s hk,ob,qH (by simp; simp at hsl; omega) (by simp; simp at hsl; omega),ob]) (by intro i s; rfl)]
 rfl
theorem F184_2_eq{x:qd}(hs:qN x)(h:qI x){n:Nat}(hn:n < x.Levels.length)(r q:Int):
  forR 0 ((ze x n q).length:Int) (F184_2_B x (n:Int) (ze x n q) (farL x n (q - r))) (F184_2_D x (n:Int) (ze x n q) (farL x n (q - r))) []=some (rowsF x n r q):=by
 have hk:=keptL_len (x:=x) (n:=n) (q:=q);have hd:=zo h hn;have hfl:=farL_len h (n:=n) (by omega) (t:=q - r);rw[zE (rowF x n (q - r)) (by omega) (fun k hk s hsl=> by
  obtain⟨i,hi,hie⟩:=keep_get hk;unfold F184_2_B;rw[qm hk,ob,hie,zE (l:=farL x n (q - r)) (fun j=> nth (qy (mt x n) i) j.toNat) (by omega) (fun c hc s2 hs2=> by
   obtain⟨n0,j,hj,hje⟩:=far_get hc;obtain⟨m,rfl⟩:∃m,n=m+1:=⟨n - 1,by omega⟩;rw[vV]at hj;have hsl0:=hs.l;obtain⟨h1,h2,h3⟩:=mt_ok h hn;have hrl:=(h3 _ (zL (show i < (mt x (m+1)).length by omega))).len;have e:((m+1:Nat):Int) - 1=(m:Int):=by omega
   unfold F184_3_B;rw[qm hc,ob,qo (by omega) (by omega),ob,e,qn h1 [],ob,show x.Complex.Maps.getD m []=mt x (m+1) from rfl,qn (show i < (mt x (m+1)).length by omega) [],ob,hje,qn (show j < ((mt x (m+1)).getD i []).length by unfold qy at hrl; omega) 0,ob,qH (by simp; simp at hs2; omega) (by simp; simp at hs2; omega),ob];rfl) (by intro i s; rfl),ob,vG,qH (by simp; simp at hsl; omega) (by simp; simp at hsl; omega),ob]
  rfl) (by intro i s; rfl)]
 rfl
def xf(keep:List Int)(row:List Int)(w:Nat):Nat→List Int
 |0=> zv w
 |k+1=>(xf keep row w k).set (keep.getD k 0).toNat (nth row k)
theorem zW{keep row:List Int}{w:Nat}:∀k,(xf keep row w k).length=w
 |0=> by simp[xf,zv]
 |k+1=> by rw[xf,vW]; exact zW k
theorem nth_set{l:List Int}{i:Nat}{v:Int}(j:Nat):nth (l.set i v) j=if i=j∧j < l.length then v else nth l j:=by
 unfold nth;rw[List.getD_eq_getElem?_getD,List.getElem?_set,List.getD_eq_getElem?_getD];by_cases h1:i=j
 ·subst h1
  by_cases h2:i < l.length
  ·simp[h2]
  ·simp[h2]
 ·simp[h1]
theorem wideN_ok{p:Int}(hp:0 < p){keep row:List Int}{w m:Nat}(hr:qJ p m row):∀k,k≤m→qJ p w (xf keep row w k)
 |0,_=> zM hp w
 |k+1,hk=>⟨zW _,fun j hj=> by
   have ih:=(wideN_ok hp (keep:=keep) hr k (by omega)).rng j hj;rw[xf,nth_set];split
   ·exact hr.rng k (by omega)
   ·exact ih⟩
def wides(keep:List Int)(w:Nat)(K:List (List Int)):List (List Int):=K.map fun row=> xf keep row w keep.length
theorem wide_loop{keep row:List Int}{w:Nat}(hk:keep.length≤1000000)(hv:∀v∈keep,0≤v∧v < w){B:Int→List Int→Option (List Int⊕List Int)}{D:Int→List Int→Option (List Int)}
  (hB:∀ (k:Nat) (s:List Int),k < keep.length→s.length=w→B k s=some (.inl (s.set (keep.getD k 0).toNat (nth row k)))) (hD:∀i s,D i s=some s):forR 0 (keep.length:Int) B D (zv w)=some (xf keep row w keep.length):=by
 have hlen:keep.length < 4611686018427387904:=by omega
 obtain⟨t,g1,g2⟩:=qx (B:=B) (D:=D) keep.length rfl hlen (fun i s=> s=xf keep row w i) (fun t=> t=xf keep row w keep.length) (s:=zv w) rfl (by
  rintro i s hi rfl;exact .inl ⟨_,hB i _ hi (zW i),rfl⟩) (by
  rintro s rfl;exact⟨_,hD _ _,rfl⟩)
 rw[g1,g2]
theorem F311_eq{keep:List Int}{w:Nat}{K:List (List Int)}(hk:keep.length≤1000)(hw:w≤1000)(hK:K.length≤1000)(hv:∀v∈keep,0≤v∧v < w)(hr:∀r∈K,r.length=keep.length):F311 K keep (w:Int)=some (wides keep w K):=by
 unfold F311;rw[zE (fun row=> xf keep row w keep.length) (by omega) (fun k hk2 s hsl=> by
  have hrl:=hr _ (wB hk2);unfold F311_1_B;rw[mkL_ok w rfl (by omega) (by omega),ob]
  change (forR 0 (keep.length:Int) _ _ (zv w)).bind _=_
  rw[wide_loop (row:=K[k]) (by omega) hv (by
   intro j s2 hj hs2;have hvj:=hv _ (qR hj 0);obtain⟨c,hc⟩:∃c:Nat,keep.getD j 0=c:=⟨(keep.getD j 0).toNat,by omega⟩;unfold F311_2_B;rw[qn hj 0,ob,qm hk2,ob,qm (show j < K[k].length by omega),ob,hc,qm (show c < s2.length by omega),ob,zh (show c < s2.length by omega),ob,vA,qU (by omega)]) (by intro i s; rfl),ob,qH (by simp; simp at hsl; omega) (by simp; simp at hsl; omega),ob]) (by intro i s; rfl),ob]
 rfl
theorem F184_4_eq{x:qd}(hs:qN x)(h:qI x){n:Nat}(hn:n < x.Levels.length){keep far:List Int}{K:List (List Int)}(hk:keep.length≤1000)(hK:K.length≤1000)(hv:∀v∈keep,0≤v∧v < dm x n)(hr:∀r∈K,r.length=keep.length):
  forR 0 (K.length:Int) (F184_4_B x (n:Int) keep far K) (F184_4_D x (n:Int) keep far K) []=some (wides keep (dm x n) K):=by
 have hd:=zo h hn;rw[zE (fun row=> xf keep row (dm x n) keep.length) (by omega) (fun k hk2 s hsl=> by
  have hrl:=hr _ (wB hk2);unfold F184_4_B;rw[qm hk2,ob,F102_dm hs h hn,ob,mkL_ok (dm x n) rfl (by omega) (by omega),ob]
  change (forR 0 (keep.length:Int) _ _ (zv (dm x n))).bind _=_
  rw[wide_loop (row:=K[k]) (by omega) hv (by
   intro j s2 hj hs2;have hvj:=hv _ (qR hj 0);obtain⟨c,hc⟩:∃c:Nat,keep.getD j 0=c:=⟨(keep.getD j 0).toNat,by omega⟩;unfold F184_5_B;rw[qn hj 0,ob,qm (show j < K[k].length by omega),ob,hc,qm (show c < s2.length by omega),ob,zh (show c < s2.length by omega),ob,vA,qU (by omega)]) (by intro i s; rfl),ob,qH (by simp; simp at hsl; omega) (by simp; simp at hsl; omega),ob]) (by intro i s; rfl)]
 rfl
theorem F76_at{x:qd}(hs:qN x)(h:qI x){n:Nat}(hn:n < x.Levels.length):∃m,F76 x.Complex (n:Int)=some m∧(n≠0→m=mt x n):=by
 have hl:=h.ll;have hd:=zo h hn;rcases Nat.eq_zero_or_pos n with h0|h0
 ·subst h0
  exact⟨_,F76_0 hs.c.d (by omega) hd.1 (by omega),fun h=> absurd rfl h⟩
 ·obtain⟨m,rfl⟩:∃m,n=m+1:=⟨n - 1,by omega⟩
  exact⟨_,F76_eq hs.c.d (by omega) (by have:=h.vc.ml; omega),fun _=> rfl⟩
theorem jK{x:qd}(hs:qN x)(h:qI x){n:Nat}(hn:n < x.Levels.length){r q:Int}(hr: -100≤r∧r≤100)(hq: -100≤q∧q≤100):
  ∃N,F184 x r (n:Int) q=some N∧F280 x r (n:Int) q=some N∧Red x.Complex.Prime (dm x n) N:=by
 have hp:=h.vc.p;have hp1:1 < x.Complex.Prime:=by have:=hp.range; omega
 have hd:=zo h hn;have hk:=keptL_len (x:=x) (n:=n) (q:=q);have hf:=farL_len h (n:=n) (by omega) (t:=q - r);obtain⟨d,c1,c2,c3⟩:=F184_1_eq hs h (n:=n) (by omega) hr hq (ze x n q);obtain⟨m,m1,m2⟩:=F76_at hs h hn;have hrl:(rowsF x n r q).length=(ze x n q).length:=by simp[rowsF]
 have hrows:=rowsF_ok h (n:=n) (by omega) r q (fun e=> by omega);obtain⟨K,k1,k2,k3⟩:=kernel_same hp hrows (by omega) (by omega);rw[hrl]at k1 k3;have hKl:=qK k3;have hv:∀v∈ze x n q,0≤v∧v < dm x n:=fun v hv=> by
  obtain⟨j,h1, -,rfl⟩:=xn.1 hv;omega
 have hKr:∀r∈K,r.length=(ze x n q).length:=fun r hr=>(k3.ok r hr).len;have hw:Rows x.Complex.Prime (dm x n) (wides (ze x n q) (dm x n) K):=fun r hr=> by
  obtain⟨row,hrow,rfl⟩:=wL.1 hr;exact wideN_ok (by omega) (k3.ok row hrow) _ (wD _)
 have hwl:(wides (ze x n q) (dm x n) K).length=K.length:=by simp[wides]
 obtain⟨N,n1,n2,n3⟩:=qZ hp hw (by omega) (by omega);refine⟨N,?_,?_,n3.red⟩
 ·unfold F184
  rw[F202_eq hs h hn,ob,c1,ob,c2,ob,c3,ob,F184_2_eq hs h hn,ob,k2,ob,F184_4_eq hs h hn (by omega) (by omega) hv hKr,ob,n2,ob]
 ·unfold F280
  rw[F99_dm hs h hn,ob,F310_eq hs h hn,ob,m1,ob,F280_1_eq hs h hn hr hq _ m m2,ob,k1,ob,F311_eq (by omega) (by omega) (by omega) hv hKr,ob,n1,ob]
theorem near_top{x:qd}(hs:qN x)(h:qI x){r q:Int}(hr: -100≤r∧r≤100)(hq: -100≤q∧q≤100):F184 x r (x.Levels.length:Int) q=some []:=by
 have hp:=h.vc.p;have hp1:1 < x.Complex.Prime:=by have:=hp.range; omega
 obtain⟨d,c1,c2,c3⟩:=F184_1_eq hs h (n:=x.Levels.length) (wD _) hr hq [];obtain⟨K, -,k2,k3⟩:=kernel_same (p:=x.Complex.Prime) (w:=0) hp (rows:=[]) (fun r hr=>(nomatch hr)) (by omega) (by simp);have hK:K=[]:=by have:=qK k3; simpa using this
 subst hK;obtain⟨N, -,n2,n3⟩:=qZ (p:=x.Complex.Prime) (w:=0) hp (rows:=[]) (fun r hr=>(nomatch hr)) (by omega) (by simp);have hN:N=[]:=wU (by have:=qK n3.red; omega);subst hN;unfold F184;rw[F202_out hs h (.inr (yC _)),ob,c1,ob,c2,ob,c3,ob]
 change ((some []).bind _)=_
 rw[ob,k2,ob]
 change ((some []).bind _)=_
 rw[ob,n2,ob]
def low(x:qd)(n:Nat)(N:List (List Int)):List (List Int):=N.map fun v=> lin x.Complex.Prime (dm x n) v (mt x (n+1))
theorem low_lin{x:qd}(h:qI x){n:Nat}(hn:n+1 < x.Levels.length){N:List (List Int)}(hN:Red x.Complex.Prime (dm x (n+1)) N){v:List Int}(hv:v∈N):LinOK x.Complex.Prime (dm x n) v (mt x (n+1)):=by
 obtain⟨h1,h2,h3⟩:=mt_ok h hn;have hd:=zo h (n:=n) (by omega);have hd1:=zo h hn;have hv':=hN.ok v hv;have hvl:=hv'.len;refine⟨h.vc.p.range,fun y hy=>?_,by omega,fun l hl=>⟨(h3 l hl).len,fun y hy=>?_⟩,by omega,by omega⟩
 ·obtain⟨k,hk,rfl⟩:=wN hy
  have:=hv'.rng k (by omega)
  rwa[qU hk]at this
 ·have hl':=h3 l hl
  have hll:=hl'.len;obtain⟨k,hk,rfl⟩:=wN hy;have:=hl'.rng k (by omega)
  rwa[qU hk]at this
theorem low_ok{x:qd}(h:qI x){n:Nat}(hn:n+1 < x.Levels.length){N:List (List Int)}(hN:Red x.Complex.Prime (dm x (n+1)) N):Rows x.Complex.Prime (dm x n) (low x n N):=by
 intro r hr;obtain⟨v,hv,rfl⟩:=wL.1 hr;have H:=low_lin h hn hN hv;have hok:=linN_ok H v.length (wD _);refine⟨hok.1,fun j hj=>?_⟩;have hj':j < (lin x.Complex.Prime (dm x n) v (mt x (n+1))).length:=by rw[lin_len H]; exact hj
 rw[qU hj'];exact hok.2 _ (wB hj')
theorem F281_eq{x:qd}(hs:qN x)(h:qI x){n:Nat}(hn:n+1 < x.Levels.length){N:List (List Int)}(hN:Red x.Complex.Prime (dm x (n+1)) N):F281 x ((n+1:Nat):Int) N=some (low x n N):=by
 have hl:=h.ll;have hNl:=qK hN;have hsl:=hs.l;have hd1:=zo h hn;unfold F281;rw[zE (fun v=> lin x.Complex.Prime (dm x n) v (mt x (n+1))) (by omega) (fun k hk s hsl2=> by
  unfold F281_1_B;have e:F76 x.Complex ((n+1:Nat):Int)=some (mt x (n+1)):=F76_eq hs.c.d (by omega) (by have:=h.vc.ml; omega);rw[e,ob,qm hk,ob,qo (by omega) (by omega),ob,show((n+1:Nat):Int) - 1=(n:Int) by omega,F99_dm hs h (by omega),ob,F80_eq (low_lin h hn hN (wB hk)) rfl,ob,qH (by simp; simp at hsl2; omega) (by simp; simp at hsl2; omega),ob]) (by intro i s; rfl),ob]
 rfl
theorem F185_1_eq{x:qd}(hs:qN x)(h:qI x){n:Nat}(hn:n+1 < x.Levels.length){N A:List (List Int)}(hN:Red x.Complex.Prime (dm x (n+1)) N)(hA:A.length≤1000):
  forR 0 (N.length:Int) (F185_1_B x (n:Int) N) (F185_1_D x (n:Int) N) A=some (A++low x n N):=by
 have hl:=h.ll;have hNl:=qK hN;have hsl:=hs.l;have hd1:=zo h hn;rw[zE (fun v=> lin x.Complex.Prime (dm x n) v (mt x (n+1))) (by omega) (fun k hk s hsl2=> by
  have hd:=zo h (n:=n) (by omega);unfold F185_1_B F91;rw[qm hk,ob,qo (by omega) (by omega),ob,if_neg (by omega),F86_eq hs.c.d,ob,if_neg (by omega),qo (by omega) (by omega),ob,show((n:Int)+1 - 1)=(n:Int) by omega,qn (show n < x.Complex.Dims.length by omega) 0,ob,qn (show n < x.Complex.Maps.length by have:=h.vc.ml; omega) [],ob,hd.1]
  change (((F119 _ _ _ (mt x (n+1))).bind _).bind _)=_
  rw[F119_eq (low_lin h hn hN (wB hk)) rfl,ob,ob,qH (by simp; omega) (by simp; omega),ob]) (by intro i s; rfl)]
 rfl
theorem xD{x:qd}(hs:qN x)(h:qI x){n:Nat}(hn:n < x.Levels.length){r q:Int}(hr: -40≤r∧r≤40)(hq: -40≤q∧q≤40):
  ∃N,F185 x r (n:Int) q=some N∧F279 x r (n:Int) q=some N∧Red x.Complex.Prime (dm x n) N:=by
 have hp:=h.vc.p;have hd:=zo h hn;have hsl:=hs.l;obtain⟨A,a1,a2,a3⟩:=jK hs h hn (r:=r - 1) (q:=q - 1) (by omega) (by omega);have hAl:=qK a3;unfold F185 F279;rw[qo (by omega) (by omega),ob,ob,qo (by omega) (by omega),ob,ob,a1,a2,ob,ob,qH (by simp; omega) (by simp; omega),ob,qo (by omega) (by omega),ob,ob,qo (by omega) (by omega),ob,qo (by omega) (by omega),ob,vG];by_cases c:n+1 < x.Levels.length
 ·obtain⟨B,b1,b2,b3⟩:=jK hs h c (r:=r - 1) (q:=q+r - 1) (by omega) (by omega)
  have hBl:=qK b3;have hd1:=zo h c;have e:(n:Int)+1=((n+1:Nat):Int):=by omega
  have hrows:Rows x.Complex.Prime (dm x n) (A++low x n B):=fun v hv=> by
   rcases wK.1 hv with hv|hv
   ·exact a3.ok v hv
   ·exact low_ok h c b3 v hv
  have hll:(low x n B).length=B.length:=by simp[low]
  obtain⟨N,n1,n2,n3⟩:=qZ hp hrows (by omega) (by rw[wP]; omega);refine⟨N,?_,?_,n3.red⟩
  ·rw[e,b1,ob,F185_1_eq hs h c b3 (by omega),ob,n2,ob]
  ·rw[if_pos (by omega),ob,qo (by omega) (by omega),ob,e,b2,ob,F281_eq hs h c b3,ob,qH (by omega) (by omega),ob,n1,ob]
 ·have hnl:(n:Int)+1=(x.Levels.length:Int):=by omega
  obtain⟨N,n1,n2,n3⟩:=qZ hp a3.ok (by omega) (by omega);rw[if_neg (by omega),hnl,near_top hs h (by omega) (by omega),ob];refine⟨N,?_,?_,n3.red⟩
  ·change ((some A).bind _)=_
   rw[ob,n2,ob]
  ·rw[n1,ob]
theorem page_code{x:qd}(hs:qN x)(r n q:Int):∃c,F166 x r n q=some c∧F247 x r n q=some c∧(c=0→qI x∧(0≤r∧r≤8)∧(0≤n∧n < x.Levels.length)∧0≤q∧q≤5):=by
 obtain⟨b,d1,d2,d3⟩:=(F38_tells hs).same (F41_tells hs);have hsl:=hs.l;have hsd:=hs.c.d;unfold F166 F247;rw[d1,d2,ob,ob];cases b with
 |false=> exact⟨1,if_neg wE,if_neg wE,fun h=> by cases h⟩
 |true=>
  have hv:=d3.1 rfl;have hll:=hv.ll;rw[if_pos rfl,if_pos rfl,jQ,F54_eq,ob,ob];by_cases c1:0≤r∧r≤8
  case neg=> exact⟨2,by rw[if_neg (by simpa using c1)],by rw[if_neg (by simpa using c1)],fun h=> by cases h⟩
  rw[if_pos (by simpa using c1),if_pos (by simpa using c1),F86_eq hsd,ob,qo (by omega) (by omega),ob,jQ,F54_eq,ob,ob,hll];by_cases c2:0≤n∧n≤(x.Complex.Dims.length:Int) - 1
  case neg=> exact⟨2,by rw[if_neg (by simpa using c2)],by rw[if_neg (by simpa using c2)],fun h=> by cases h⟩
  rw[if_pos (by simpa using c2),if_pos (by simpa using c2),jQ,F54_eq,ob];by_cases c3:0≤q∧q≤5
  case neg=> exact⟨2,by rw[if_neg (by simpa using c3)],by rw[if_neg (by simpa using c3)],fun h=> by cases h⟩
  exact⟨0,by rw[if_pos (by simpa using c3)],by rw[if_pos (by simpa using c3)],fun _=>⟨hv,c1,by omega,c3⟩⟩
theorem IsP.inv{p:Int}(hp:IsP p):HasInv p:=by
 intro a h0 h1;have key:∀k m:Int,a*k=1+p*m→∃k,Cg p (a*k) 1:=fun k m e=>⟨k,m,by omega⟩;unfold IsP at hp;rcases hp with rfl|rfl|rfl|rfl
 ·have:a=1:=by omega
  subst this; exact key 1 0 (by decide)
 ·have:a=1∨a=2:=by omega
  rcases this with rfl|rfl
  ·exact key 1 0 (by decide)
  ·exact key 2 1 (by decide)
 ·have:a=1∨a=2∨a=3∨a=4:=by omega
  rcases this with rfl|rfl|rfl|rfl
  ·exact key 1 0 (by decide)
  ·exact key 3 1 (by decide)
  ·exact key 2 1 (by decide)
  ·exact key 4 3 (by decide)
 ·have:a=1∨a=2∨a=3∨a=4∨a=5∨a=6:=by omega
  rcases this with rfl|rfl|rfl|rfl|rfl|rfl
  ·exact key 1 0 (by decide)
  ·exact key 4 1 (by decide)
  ·exact key 5 2 (by decide)
  ·exact key 2 1 (by decide)
  ·exact key 3 2 (by decide)
  ·exact key 6 5 (by decide)
theorem rest_take{p:Int}{R:List (List Int)}{v:List Int}{i:Nat}(hi:i < R.length):rest p (R.take (i+1)) v=subv p (rest p (R.take i) v) R[i] (nth (rest p (R.take i) v) (ld R[i])):=by
 rw[←wT hi];unfold rest;rw[List.foldl_append];rfl
theorem F205_eq{p:Int}{w:Nat}(hp:IsP p){R:List (List Int)}(hR:Red p w R){v:List Int}(hv:qJ p w v)(hw:w≤1000):F205 p v R=some (rest p R v):=by
 have hp0:0 < p:=by have:=hp.range; omega
 have hRl:=qK hR;unfold F205;rw[F96_eq (by rw[hv.len]; omega),ob,F101_eq hR hw,ob];obtain⟨t,g1,g2⟩:=qx (B:=F205_1_B p R (R.map fun r=>(ld r:Int))) (D:=F205_1_D) (hi:=((R.map fun r=>(ld r:Int)).length:Int)) R.length (by simp) (by omega) (fun i s=> s=rest p (R.take i) v) (fun t=> t=rest p R v) (s:=v) rfl (by
  rintro i s hi rfl;left;have hri:=hR.ok _ (wB hi);have hro:=hR.one _ (wB hi);have hok:=zV hp0 (R:=R.take i) (fun r hr=> hR.ok r (wM hr)) hv;have hrng:=hok.rng _ hro.1;refine⟨_,?_,(rest_take hi).symm⟩;unfold F205_1_B;rw[qm (by simpa using hi),ob,List.getElem_map,qm hi,ob,zJ (by rw[hok.len]; exact hro.1),ob,F139_eq hp.range hrng hok hri (by omega),ob]) (by
  rintro s rfl;exact⟨_,rfl,by rw[vH]⟩)
 rw[g1,g2]
theorem rest_rows{p:Int}{w:Nat}(hp0:0 < p){R N:List (List Int)}(hR:Rows p w R)(hN:Rows p w N):Rows p w (N.map (rest p R)):=fun r hr=> by
 obtain⟨v,hv,rfl⟩:=wL.1 hr;exact zV hp0 hR (hN v hv)
theorem F204_eq{p:Int}{w:Nat}(hp:IsP p){R N:List (List Int)}(hR:Red p w R)(hN:Rows p w N)(hl:N.length≤1000)(hw:w≤1000):∃E,F204 p N R=some E∧F131 p (N.map (rest p R))=some E∧zj p w (N.map (rest p R)) E:=by
 have hp0:0 < p:=by have:=hp.range; omega
 obtain⟨E,e1,e2,e3⟩:=qZ hp (rest_rows hp0 hR.ok hN) (by omega) (by rw[vP]; omega);refine⟨E,?_,e1,e3⟩;unfold F204;rw[zE (rest p R) (by omega) (fun k hk s hsl=> by
  have hv:=hN _ (wB hk);unfold F204_1_B;rw[qm hk,ob,F205_eq hp hR hv hw,ob,qH (by simp; simp at hsl; omega) (by simp; simp at hsl; omega),ob]) (by intro i s; rfl),ob,vG,e2,ob]
theorem basis_eq{x:qd}(hs:qN x)(h:qI x){n:Nat}(hn:n < x.Levels.length){r q:Int}(hr: -40≤r∧r≤40)(hq: -40≤q∧q≤40){N B:List (List Int)}(hN:F184 x r (n:Int) q=some N)(hB:F185 x r (n:Int) q=some B)(nN:Red x.Complex.Prime (dm x n) N)(nB:Red x.Complex.Prime (dm x n) B):
  ∃E,F187 x r (n:Int) q=some E∧F131 x.Complex.Prime (N.map (rest x.Complex.Prime B))=some E∧zj x.Complex.Prime (dm x n) (N.map (rest x.Complex.Prime B)) E:=by
 have hd:=zo h hn;have hNl:=qK nN;obtain⟨E,e1,e2,e3⟩:=F204_eq h.vc.p nB nN.ok (by omega) (by omega);refine⟨E,?_,e2,e3⟩;unfold F187;rw[hN,hB,ob,ob,e1,ob]
theorem kernel_full{p:Int}{w:Nat}(hp:IsP p){rows:List (List Int)}(hr:Rows p w rows)(hw:w≤1000)(hn:rows.length≤1000):∃K,F122 p rows.length rows=some K∧F125 p rows=some K∧Red p rows.length K∧∀c,Sp p rows.length K c↔qJ p rows.length c∧∀j,j < w→Cg p (dot (nth c) rows rows.length j) 0:=by
 have hp1:1 < p:=by have:=hp.range; omega
 unfold F122 F125;rw[F122_1_eq hr hw hn,ob];simp only;by_cases h0:rows.length=0
 ·have:rows=[]:=wU h0
  subst this;have e:(jp ([]:List (List Int)).length [])=[]:=by simp[jp]
  obtain⟨E,e1, -,e3⟩:=qZ hp (rows:=[]) (w:=0+0) (fun r h=>(nomatch h)) (by omega) (by simp);have hE:E=[]:=wU (by have:=qK e3.red; omega);subst hE;rw[e,e1,ob,if_pos (by simp),if_pos (by simp)];have:=F122_2_eq (w:=0) (n:=0) e3.red (by omega);have h2:forR 0 ((([]:List (List Int)).length:Nat):Int) (xe 0 []) (xN 0 []) []=some []:=this;rw[h2];refine⟨[],rfl,rfl,⟨fun r h=>(nomatch h),fun r h=>(nomatch h),.nil⟩,fun c=>⟨fun hc=>⟨hc.ok (by omega) (fun r h=> absurd h yG),fun j _=> .refl _ _⟩,fun hc=>?_⟩⟩;have:c=zv 0:=wU hc.1.len;rw[this];exact .zero
 ·rw[if_neg h0,if_neg (by omega)]
  obtain⟨E,e1,e2,e3⟩:=qZ hp (longs_ok hp1 hr) (by omega) (by rw[longs_len]; omega);have hpos:0 < rows.length:=by omega
  have hx0:=(hr _ (wB hpos)).len;have ht:=tails_red e3.red;rw[show(0:Int)=((0:Nat):Int) from rfl,qm hpos,ob,show((0:Nat):Int)=(0:Int) from rfl,e1,ob,F122_2_eq e3.red (by omega),ob,F125_1_eq hr hx0 hw hn,ob,e2,ob,F125_2_eq e3.red (by omega) hx0,ob,F133_self hp ht (by omega) (by have:=qK ht; omega),ob];exact⟨_,rfl,rfl,ht,fun c=> kernel_sp hp1 hr e3⟩
abbrev kf(c:Nat→Prop)[DecidablePred c](i:Nat):List Int:=if c i then [(i:Int)]else []
theorem coll_get{c:Nat→Prop}[DecidablePred c]:∀ {n k:Nat},k < (coll n (kf c)).length→∃i,i < n∧c i∧(coll n (kf c)).getD k 0=(i:Int)∧(coll i (kf c)).length=k
 |0,k,h=> absurd h (by simp[coll])
 |n+1,k,h=> by
  rw[xu]at h ⊢;by_cases q:k < (coll n (kf c)).length
  ·obtain⟨i,h1,h2,h3,h4⟩:=coll_get q
   refine⟨i,by omega,h2,?_,h4⟩;rw[←h3,List.getD_eq_getElem?_getD,List.getElem?_append_left q,List.getD_eq_getElem?_getD]
  ·by_cases hc:c n
   ·have e:kf c n=[(n:Int)]:=if_pos hc
    rw[e]at h ⊢;have hk:k=(coll n (kf c)).length:=by simp at h; omega
    subst hk;exact⟨n,by omega,hc,by rw[List.getD_eq_getElem?_getD]; simp,rfl⟩
   ·have e:kf c n=[]:=if_neg hc
    rw[e,vM]at h;exact absurd h q
theorem coll_at{c:Nat→Prop}[DecidablePred c]{i:Nat}(hc:c i):∀ {n:Nat},i < n→(coll i (kf c)).length < (coll n (kf c)).length∧(coll n (kf c)).getD (coll i (kf c)).length 0=(i:Int)
 |0,h=> absurd h (yN _)
 |n+1,h=> by
  rw[xu];by_cases q:i=n
  ·subst q
   have e:kf c i=[(i:Int)]:=if_pos hc;rw[e];exact⟨by simp,by rw[List.getD_eq_getElem?_getD]; simp⟩
  ·obtain⟨h1,h2⟩:=coll_at hc (n:=n) (by omega)
   refine⟨by rw[wP]; omega,?_⟩;rw[←h2,List.getD_eq_getElem?_getD,List.getElem?_append_left h1,List.getD_eq_getElem?_getD]
theorem wide_at{w:Nat}{c:Nat→Prop}[DecidablePred c]{cc:List Int}{i:Nat}(hi:i < w):∀ {k:Nat},k≤(coll w (kf c)).length→nth (xf (coll w (kf c)) cc w k) i=if c i∧(coll i (kf c)).length < k then nth cc (coll i (kf c)).length else 0
 |0,_=> by rw[xf,zm,if_neg (by omega)]
 |k+1,hk=> by
  obtain⟨i',h1,h2,h3,h4⟩:=coll_get (c:=c) (n:=w) (k:=k) (by omega);rw[xf,nth_set,h3,vA,zW,wide_at hi (by omega)];by_cases q:i'=i
  ·subst q
   rw[if_pos ⟨rfl,hi⟩,if_pos ⟨h2,by omega⟩,h4]
  ·rw[if_neg (by omega)]
   by_cases e:c i∧(coll i (kf c)).length < k
   ·rw[if_pos e,if_pos ⟨e.1,by omega⟩]
   ·rw[if_neg e,if_neg]
    rintro⟨e1,e2⟩;have e3:(coll i (kf c)).length=k:=by
     have:¬(coll i (kf c)).length < k:=fun q=> e ⟨e1,q⟩;omega
    have h5:=(coll_at e1 hi).2;rw[e3,h3]at h5;omega
theorem wide_lin{p:Int}{w:Nat}{c:Nat→Prop}[DecidablePred c](hp:0 < p):Lin p (coll w (kf c)).length w fun cc=> xf (coll w (kf c)) cc w (coll w (kf c)).length:=by
 refine⟨fun u hu=> wideN_ok hp hu _ (wD _),fun u v k hu hv=>?_⟩;refine nth_ext (by simp[subv,zW]) fun i hi=>?_;rw[zW]at hi;rw[wide_at hi (wD _),zn (zW _) (zW _) hi,wide_at hi (wD _),wide_at hi (wD _)];by_cases e:c i∧(coll i (kf c)).length < (coll w (kf c)).length
 ·rw[if_pos e,if_pos e,if_pos e,zn hu.len hv.len e.2]
 ·rw[if_neg e,if_neg e,if_neg e]; simp
theorem dot_kept{c:Nat→Prop}[DecidablePred c]{g:Nat→Int}{m:List (List Int)}{j n:Nat}:∀ {d:Nat},d≤n→dot (fun i=> if c i then g (coll i (kf c)).length else 0) m d j=sumI (fun k=> g k*nth (qy m ((coll n (kf c)).getD k 0).toNat) j) (coll d (kf c)).length
 |0,_=> by simp[dot,sumI,coll]
 |d+1,hd=> by
  have ih:=dot_kept (c:=c) (g:=g) (m:=m) (j:=j) (n:=n) (d:=d) (by omega);unfold dot at ih ⊢;show sumI _ d+_=_;rw[ih,xu];simp only;by_cases hc:c d
  ·have e:kf c d=[(d:Int)]:=if_pos hc
   have h2:=(coll_at hc (n:=n) (by omega)).2;rw[e,if_pos hc,wP,List.length_singleton];show _=sumI _ _+_;simp only;rw[h2,vA]
  ·have e:kf c d=[]:=if_neg hc
   rw[e,if_neg hc,vM]; simp
def NearP(x:qd)(r:Int)(n:Nat)(q:Int)(v:List Int):Prop:=
 qJ x.Complex.Prime (dm x n) v∧(∀i,i < dm x n→q < lv x n i→nth v i=0)∧(n≠0→∀j,j < dm x (n - 1)→q - r < lv x (n - 1) j→Cg x.Complex.Prime (dot (nth v) (mt x n) (dm x n) j) 0)
theorem near_sp{x:qd}(hs:qN x)(h:qI x){n:Nat}(hn:n < x.Levels.length){r q:Int}(hr: -100≤r∧r≤100)(hq: -100≤q∧q≤100){N:List (List Int)}(hN:F184 x r (n:Int) q=some N):∀v,Sp x.Complex.Prime (dm x n) N v↔NearP x r n q v:=by
 have hp:=h.vc.p;have hp0:0 < x.Complex.Prime:=by have:=hp.range; omega
 have hd:=zo h hn;have hk:=keptL_len (x:=x) (n:=n) (q:=q);have hf:=farL_len h (n:=n) (by omega) (t:=q - r);obtain⟨d,c1,c2,c3⟩:=F184_1_eq hs h (n:=n) (by omega) hr hq (ze x n q);have hrl:(rowsF x n r q).length=(ze x n q).length:=by simp[rowsF]
 have hrows:=rowsF_ok h (n:=n) (by omega) r q (fun e=> by omega);obtain⟨K,k1,k2,k3,k4⟩:=kernel_full hp hrows (by omega) (by omega);rw[hrl]at k1 k3 k4;have hKl:=qK k3;have hv:∀v∈ze x n q,0≤v∧v < dm x n:=fun v hv=> by
  obtain⟨j,h1, -,rfl⟩:=xn.1 hv;omega
 have hKr:∀r∈K,r.length=(ze x n q).length:=fun r hr=>(k3.ok r hr).len;have hw:Rows x.Complex.Prime (dm x n) (wides (ze x n q) (dm x n) K):=fun r hr=> by
  obtain⟨row,hrow,rfl⟩:=wL.1 hr;exact wideN_ok hp0 (k3.ok row hrow) _ (wD _)
 have hwl:(wides (ze x n q) (dm x n) K).length=K.length:=by simp[wides]
 obtain⟨N', -,n2,n3⟩:=qZ hp hw (by omega) (by omega);have e:F184 x r (n:Int) q=some N':=by
  unfold F184;rw[F202_eq hs h hn,ob,c1,ob,c2,ob,c3,ob,F184_2_eq hs h hn,ob,k2,ob,F184_4_eq hs h hn (by omega) (by omega) hv hKr,ob,n2,ob]
 rw[hN]at e;obtain rfl:=wA e;have hL:Lin x.Complex.Prime (ze x n q).length (dm x n) fun cc=> xf (ze x n q) cc (dm x n) (ze x n q).length:=wide_lin (c:=fun i=> lv x n i≤q) hp0;have hat:∀ (cc:List Int) (i:Nat),i < dm x n→nth (xf (ze x n q) cc (dm x n) (ze x n q).length) i=if lv x n i≤q then nth cc (coll i (kf fun i=> lv x n i≤q)).length else 0:=fun cc i hi=> by
  have:=wide_at (c:=fun i=> lv x n i≤q) (cc:=cc) hi (wD _);refine this.trans ?_;by_cases q1:lv x n i≤q
  ·rw[if_pos ⟨q1,(coll_at (c:=fun i=> lv x n i≤q) q1 hi).1⟩,if_pos q1]
  ·rw[if_neg (fun e=> q1 e.1),if_neg q1]
 -- the numbers at places far below
 have hdot:∀ (cc:List Int) (jj:Nat) (hjj:jj < (farL x n (q - r)).length),dot (nth (xf (ze x n q) cc (dm x n) (ze x n q).length)) (mt x n) (dm x n) ((farL x n (q - r))[jj]).toNat=dot (nth cc) (rowsF x n r q) (ze x n q).length jj:=fun cc jj hjj=> by
  have h1:dot (nth (xf (ze x n q) cc (dm x n) (ze x n q).length)) (mt x n) (dm x n) ((farL x n (q - r))[jj]).toNat=dot (fun i=> if lv x n i≤q then nth cc (coll i (kf fun i=> lv x n i≤q)).length else 0) (mt x n) (dm x n) ((farL x n (q - r))[jj]).toNat:=jn fun i hi=> by rw[hat cc i hi]
  rw[h1,dot_kept (c:=fun i=> lv x n i≤q) (g:=nth cc) (wD (dm x n))];refine jn fun k hk2=>?_;have hk3:k < (ze x n q).length:=hk2;have e1:qy (rowsF x n r q) k=rowF x n (q - r) (ze x n q)[k]:=by rw[qQ (by rw[hrl]; exact hk3)]; simp[rowsF]
  have e2:(coll (dm x n) (kf fun i=> lv x n i≤q)).getD k 0=(ze x n q)[k]:=by
   change (ze x n q).getD k 0=_
   simp[hk3]
  rw[e1,e2];unfold rowF;rw[nth_mapg hjj]
 intro v;rw[n3.sp v];constructor
 ·intro hv'
  obtain⟨cc,s1,rfl⟩:=hL.lift hp0 (R:=K) k3.ok hv';obtain⟨s2,s3⟩:=(k4 cc).1 s1;refine⟨hL.ok cc s2,fun i hi hlt=>?_,fun n0 j hj hlt=>?_⟩
  ·rw[hat cc i hi,if_neg (by omega)]
  ·have hfe:farL x n (q - r)=coll (dm x (n - 1)) (kf fun j=> q - r < lv x (n - 1) j):=by unfold farL; rw[if_neg n0]
   obtain⟨f1,f2⟩:=coll_at (c:=fun j=> q - r < lv x (n - 1) j) hlt hj;rw[←hfe]at f1 f2;have f3:=s3 _ f1;rw[←hdot cc _ f1]at f3;have f4:(farL x n (q - r))[(coll j (kf fun j=> q - r < lv x (n - 1) j)).length]=(j:Int):=by
    rw[←f2]; simp[f1]
   rwa[f4,vA]at f3
 ·rintro⟨v1,v2,v3⟩
  let cc:=(ze x n q).map fun i=> nth v i.toNat
  have hcc:qJ x.Complex.Prime (ze x n q).length cc:=⟨by simp[cc],fun k hk2=> by
   obtain⟨i,hi,hie⟩:=keep_get hk2;rw[nth_mapg hk2,hie,vA];exact v1.rng i hi⟩
  have hcv:xf (ze x n q) cc (dm x n) (ze x n q).length=v:=nth_ext (by rw[zW,v1.len]) fun i hi=> by
   rw[zW]at hi;rw[hat cc i hi];by_cases q1:lv x n i≤q
   ·obtain⟨f1,f2⟩:=coll_at (c:=fun i=> lv x n i≤q) q1 hi
    have f1':(coll i (kf fun i=> lv x n i≤q)).length < (ze x n q).length:=f1;have f2':(ze x n q)[(coll i (kf fun i=> lv x n i≤q)).length]=(i:Int):=by
     have:(ze x n q).getD (coll i (kf fun i=> lv x n i≤q)).length 0=(i:Int):=f2;rw[←this]; simp[f1']
    rw[if_pos q1,nth_mapg f1',f2',vA]
   ·rw[if_neg q1,v2 i hi (by omega)]
  have hS:Sp x.Complex.Prime (ze x n q).length K cc:=(k4 cc).2 ⟨hcc,fun jj hjj=> by
   rw[←hdot cc jj hjj,hcv];obtain⟨n0,j,hj,hje⟩:=far_get hjj;have hjm:=wB hjj;have hlt:q - r < lv x (n - 1) j:=by
    rw[hje]at hjm;unfold farL at hjm;rw[if_neg n0,mem_coll]at hjm;obtain⟨j2, -,h2⟩:=hjm;split at h2
    ·rename_i q2
     have h3:(j:Int)=(j2:Int):=by simpa using h2
     have:j=j2:=by omega
     subst this; exact q2
    ·simp at h2
   rw[hje,vA];exact v3 n0 j hj hlt⟩
  have:=hL.sp hp0 (R:=K) k3.ok hS;rw[hcv]at this;exact this
theorem lin_at{p:Int}{n:Nat}{v:List Int}{m:List (List Int)}(H:LinOK p n v m){j:Nat}(hj:j < n):Cg p (nth (lin p n v m) j) (dot (nth v) m v.length j):=by
 have key:∀i,i≤v.length→Cg p (nth (linN p n v m i) j) (dot (nth v) m i j):=by
  intro i;induction i with
  |zero=> intro _; simp only[linN]; rw[show nth (List.replicate n (0:Int)) j=0 from zm n j]; exact .refl _ _
  |succ i ih=>
   intro hi;obtain⟨h1,h2⟩:=linN_ok H i (by omega);have hm:i < m.length:=by have:=H.hl; omega
   have hr:=H.hr _ (wB hm);have e1:v.getD i 0=v[i]:=by simp[show i < v.length by omega]
   have e2:m.getD i []=m[i]:=by simp[hm]
   have hx:=H.hv _ (wB (show i < v.length by omega));have ho:=h2 _ (wB (show j < (linN p n v m i).length by omega));have hy:=hr.2 _ (wB (show j < m[i].length by omega));obtain⟨-, -,t1, -⟩:=small_mul H.hp hx hy ho;have e3:nth (linN p n v m (i+1)) j=((linN p n v m i)[j]+v[i]*(m[i])[j]).tmod p:=by
    simp only[linN,e1,e2];rw[qU (by unfold addRow; rw[List.length_zipWith,h1,hr.1]; omega)];simp[addRow]
   have h0:0≤(linN p n v m i)[j]+v[i]*(m[i])[j]:=by have:=Int.mul_nonneg hx.1 hy.1; omega
   rw[e3,Int.tmod_eq_emod_of_nonneg h0];refine(Cg.mod _ _).trans ?_;show Cg p _ (sumI _ (i+1));unfold sumI;refine .add ?_ ?_
   ·have:=ih (by omega)
    rwa[qU (by omega)]at this
   ·rw[qU (show i < v.length by omega),qQ hm,qU (show j < m[i].length by omega)]; exact .refl _ _
 exact key v.length (wD _)
def df(x:qd)(n:Nat)(v:List Int):List Int:=lin x.Complex.Prime (dm x n) v (mt x (n+1))
theorem df_linok{x:qd}(h:qI x){n:Nat}(hn:n+1 < x.Levels.length){v:List Int}(hv:qJ x.Complex.Prime (dm x (n+1)) v):LinOK x.Complex.Prime (dm x n) v (mt x (n+1)):=by
 obtain⟨h1,h2,h3⟩:=mt_ok h hn;have hd:=zo h (n:=n) (by omega);have hd1:=zo h hn;have hvl:=hv.len;refine⟨h.vc.p.range,fun y hy=>?_,by omega,fun l hl=>⟨(h3 l hl).len,fun y hy=>?_⟩,by omega,by omega⟩
 ·obtain⟨k,hk,rfl⟩:=wN hy
  have:=hv.rng k (by omega)
  rwa[qU hk]at this
 ·have hl':=h3 l hl
  have hll:=hl'.len;obtain⟨k,hk,rfl⟩:=wN hy;have:=hl'.rng k (by omega)
  rwa[qU hk]at this
theorem df_at{x:qd}(h:qI x){n:Nat}(hn:n+1 < x.Levels.length){v:List Int}(hv:qJ x.Complex.Prime (dm x (n+1)) v){j:Nat}(hj:j < dm x n):Cg x.Complex.Prime (nth (df x n v) j) (dot (nth v) (mt x (n+1)) (dm x (n+1)) j):=by
 have:=lin_at (df_linok h hn hv) hj
 rwa[hv.len]at this
theorem df_ok{x:qd}(h:qI x){n:Nat}(hn:n+1 < x.Levels.length){v:List Int}(hv:qJ x.Complex.Prime (dm x (n+1)) v):qJ x.Complex.Prime (dm x n) (df x n v):=by
 have H:=df_linok h hn hv;have hok:=linN_ok H v.length (wD _);refine⟨hok.1,fun j hj=>?_⟩;have hj':j < (df x n v).length:=by unfold df; rw[lin_len H]; exact hj
 rw[qU hj'];exact hok.2 _ (wB hj')
theorem df_lin{x:qd}(h:qI x){n:Nat}(hn:n+1 < x.Levels.length):Lin x.Complex.Prime (dm x (n+1)) (dm x n) (df x n):=by
 have hp0:0 < x.Complex.Prime:=by have:=h.vc.p.range; omega
 refine⟨fun u hu=> df_ok h hn hu,fun u v k hu hv=>?_⟩;have h1:=qT hp0 hu.len hv.len (k:=k);have d1:=df_ok h hn hu;have d2:=df_ok h hn hv;refine(df_ok h hn h1).ext (qT hp0 d1.len d2.len) fun j hj=>?_;refine(df_at h hn h1 hj).trans (Cg.trans (dot_cg fun i hi=> qX hu.len hv.len hi) ?_);rw[dot_lin];exact Cg.symm ((qX d1.len d2.len hj).trans (.sub (df_at h hn hu hj) (.mul (.refl _ _) (df_at h hn hv hj))))
theorem units_sp{p:Int}(hp:1 < p){n:Nat}{v:List Int}(hv:qJ p n v):Sp p n (xk n) v:=by
 have hp0:0 < p:=by omega
 have hu:=units_red hp n;refine(zY hp0 hu hv).1 ((zV hp0 hu.ok hv).ext (zM hp0 n) fun j hj=>?_);have hm:jR n j∈xk n:=wL.2 ⟨j,vC.2 hj,rfl⟩;have:=rest_lead hp0 hu hv _ hm;rw[ld_unit hj]at this;rw[this,zm]; exact .refl _ _
theorem Sp.zeros{p:Int}{w:Nat}(hp:0 < p){R:List (List Int)}(h:∀r∈R,r=zv w){v:List Int}(hv:Sp p w R v):v=zv w:=by
 induction hv with
 |zero=> rfl
 | @sub v r k hv hr ih=>
  rw[ih,h r hr];exact(qT hp (zM hp w).len (zM hp w).len).ext (zM hp w) fun j hj=>(qX (zM hp w).len (zM hp w).len hj).trans (by rw[zm]; exact⟨0,by simp⟩)
theorem df_unit{x:qd}(h:qI x){n:Nat}(hn:n+1 < x.Levels.length){i:Nat}(hi:i < dm x (n+1)):df x n (jR (dm x (n+1)) i)=qy (mt x (n+1)) i:=by
 have hp1:1 < x.Complex.Prime:=by have:=h.vc.p.range; omega
 obtain⟨h1,h2,h3⟩:=mt_ok h hn;have hu:=unitv_ok hp1 hi;refine(df_ok h hn hu).ext (h3 _ (zL (by omega))) fun j hj=>?_;refine(df_at h hn hu hj).trans ?_;rw[show dot (nth (jR (dm x (n+1)) i)) (mt x (n+1)) (dm x (n+1)) j=nth (qy (mt x (n+1)) i) j by
  rw[←dot_unit (m:=mt x (n+1)) (j:=j) hi];exact jn fun k _=> by simp only; rw[xy hi]]
 exact .refl _ _
theorem df_df{x:qd}(h:qI x){n:Nat}(hn:n+2 < x.Levels.length){v:List Int}(hv:qJ x.Complex.Prime (dm x (n+2)) v):df x n (df x (n+1) v)=zv (dm x n):=by
 have hp1:1 < x.Complex.Prime:=by have:=h.vc.p.range; omega
 have hp0:0 < x.Complex.Prime:=by omega
 have hL:=(df_lin h (n:=n+1) hn).comp (df_lin h (n:=n) (by omega));have hS:=hL.sp hp0 (units_red hp1 (dm x (n+2))).ok (units_sp hp1 hv);refine Sp.zeros hp0 (fun r hr=>?_) hS;obtain⟨u,hu,rfl⟩:=wL.1 hr;obtain⟨i,hi,rfl⟩:=wL.1 hu;have hi':=vC.1 hi;rw[df_unit h (n:=n+1) hn hi'];obtain⟨h1,h2,h3⟩:=mt_ok h hn;have hm:=zL (l:=mt x (n+2)) (i:=i) (by rw[h2]; exact hi');have hsq:=h.vc.sq (n+1) (by omega) h1 _ hm;have hd:=zo h (n:=n) (by omega);have hrow:=h3 _ hm;have hok:=df_ok h (n:=n) (by omega) hrow;refine nth_ext (by rw[hok.len]; simp[zv]) fun j hj=>?_;rw[zm,qU hj];refine hsq _ ?_;have:df x n (qy (mt x (n+2)) i)=lin x.Complex.Prime (x.Complex.Dims.getD (n+1 - 1) 0).toNat (qy (mt x (n+2)) i) (x.Complex.Maps.getD (n+1 - 1) []):=rfl;rw[←this];exact wB hj
theorem xE{x:qd}(hs:qN x)(h:qI x){n:Nat}(hn:n < x.Levels.length){r q:Int}(hr: -40≤r∧r≤40)(hq: -40≤q∧q≤40):
  ∃N A,F185 x r (n:Int) q=some N∧F279 x r (n:Int) q=some N∧Red x.Complex.Prime (dm x n) N∧F184 x (r - 1) (n:Int) (q - 1)=some A∧Red x.Complex.Prime (dm x n) A∧
   (n+1 < x.Levels.length→∃B,F184 x (r - 1) ((n+1:Nat):Int) (q+r - 1)=some B∧Red x.Complex.Prime (dm x (n+1)) B∧zj x.Complex.Prime (dm x n) (A++low x n B) N)∧(¬n+1 < x.Levels.length→zj x.Complex.Prime (dm x n) A N):=by
 have hp:=h.vc.p;have hd:=zo h hn;have hsl:=hs.l;obtain⟨A,a1,a2,a3⟩:=jK hs h hn (r:=r - 1) (q:=q - 1) (by omega) (by omega);have hAl:=qK a3;by_cases c:n+1 < x.Levels.length
 ·obtain⟨B,b1,b2,b3⟩:=jK hs h c (r:=r - 1) (q:=q+r - 1) (by omega) (by omega)
  have hBl:=qK b3;have hd1:=zo h c;have e:(n:Int)+1=((n+1:Nat):Int):=by omega
  have hrows:Rows x.Complex.Prime (dm x n) (A++low x n B):=fun v hv=> by
   rcases wK.1 hv with hv|hv
   ·exact a3.ok v hv
   ·exact low_ok h c b3 v hv
  have hll:(low x n B).length=B.length:=by simp[low]
  obtain⟨N,n1,n2,n3⟩:=qZ hp hrows (by omega) (by rw[wP]; omega);refine⟨N,A,?_,?_,n3.red,a1,a3,fun _=>⟨B,b1,b3,n3⟩,fun q=> absurd c q⟩
  ·unfold F185
   rw[qo (by omega) (by omega),ob,qo (by omega) (by omega),ob,a1,ob,qo (by omega) (by omega),ob,qo (by omega) (by omega),ob,qo (by omega) (by omega),ob,e,b1,ob,F185_1_eq hs h c b3 (by omega),ob,n2,ob]
  ·unfold F279
   rw[qo (by omega) (by omega),ob,qo (by omega) (by omega),ob,a2,ob,qH (by simp; omega) (by simp; omega),ob,qo (by omega) (by omega),ob,if_pos (by omega),qo (by omega) (by omega),ob,qo (by omega) (by omega),ob,vG,e,b2,ob,F281_eq hs h c b3,ob,qH (by omega) (by omega),ob,n1,ob]
 ·have hnl:(n:Int)+1=(x.Levels.length:Int):=by omega
  obtain⟨N,n1,n2,n3⟩:=qZ hp a3.ok (by omega) (by omega);refine⟨N,A,?_,?_,n3.red,a1,a3,fun q=> absurd q c,fun _=> n3⟩
  ·unfold F185
   rw[qo (by omega) (by omega),ob,qo (by omega) (by omega),ob,a1,ob,qo (by omega) (by omega),ob,qo (by omega) (by omega),ob,qo (by omega) (by omega),ob,hnl,near_top hs h (by omega) (by omega),ob]
   change ((some A).bind _)=_
   rw[ob,n2,ob]
  ·unfold F279
   rw[qo (by omega) (by omega),ob,qo (by omega) (by omega),ob,a2,ob,qH (by simp; omega) (by simp; omega),ob,qo (by omega) (by omega),ob,if_neg (by omega),vG,n1,ob]
theorem F91_df{x:qd}(hs:qN x)(h:qI x){n:Nat}(hn:n+1 < x.Levels.length){v:List Int}(hv:qJ x.Complex.Prime (dm x (n+1)) v):F91 x.Complex ((n+1:Nat):Int) v=some (df x n v):=by
 have hl:=h.ll;have hsl:=hs.l;have hd:=zo h (n:=n) (by omega);unfold F91;rw[if_neg (by omega),F86_eq hs.c.d,ob,if_neg (by omega),qo (by omega) (by omega),ob,show(((n+1:Nat):Int) - 1)=(n:Int) by omega,qn (show n < x.Complex.Dims.length by omega) 0,ob,qn (show n < x.Complex.Maps.length by have:=h.vc.ml; omega) [],ob,hd.1]
 change (((F119 _ _ _ (mt x (n+1))).bind _))=_
 rw[F119_eq (df_linok h hn hv) rfl,ob];rfl
theorem df_near{x:qd}(h:qI x){m:Nat}(hm:m+1 < x.Levels.length){t:Int}(r':Int){z:List Int}(hz:qJ x.Complex.Prime (dm x (m+1)) z)(hd:∀j,j < dm x m→t < lv x m j→Cg x.Complex.Prime (dot (nth z) (mt x (m+1)) (dm x (m+1)) j) 0):NearP x r' m t (df x m z):=by
 have hp0:0 < x.Complex.Prime:=by have:=h.vc.p.range; omega
 have hok:=df_ok h hm hz;refine⟨hok,fun i hi hlt=>?_,fun m0 j hj _=>?_⟩
 ·exact((df_at h hm hz hi).trans (hd i hi hlt)).eq (hok.rng i hi).1 (hok.rng i hi).2 (yC _) hp0
 ·obtain⟨k,rfl⟩:∃k,m=k+1:=⟨m - 1,by omega⟩
  rw[vV]at hj;have h1:=df_at h (n:=k) (by omega) hok hj;rw[df_df h hm hz,zm]at h1;exact h1.symm
theorem bot_near{x:qd}(hs:qN x)(h:qI x){n:Nat}(hn:n < x.Levels.length){r q:Int}(hr: -40≤r∧r≤40)(hq: -40≤q∧q≤40){N B:List (List Int)}(hN:F184 x r (n:Int) q=some N)(nN:Red x.Complex.Prime (dm x n) N)(hB:F185 x r (n:Int) q=some B):∀v,Sp x.Complex.Prime (dm x n) B v→Sp x.Complex.Prime (dm x n) N v:=by
 have hp0:0 < x.Complex.Prime:=by have:=h.vc.p.range; omega
 obtain⟨B',A,b1, -,b3,b4,b5,b6,b7⟩:=xE hs h hn hr hq;rw[hB]at b1;obtain rfl:=wA b1;have hA:∀v∈A,Sp x.Complex.Prime (dm x n) N v:=fun v hv=> by
  obtain⟨v1,v2,v3⟩:=(near_sp hs h hn (by omega) (by omega) b4 v).1 (.mem hp0 b5.ok hv);exact(near_sp hs h hn (by omega) (by omega) hN v).2 ⟨v1,fun i hi hlt=> v2 i hi (by omega),fun n0 j hj hlt=> v3 n0 j hj (by omega)⟩
 intro v hv;by_cases c:n+1 < x.Levels.length
 ·obtain⟨D,d1,d2,d3⟩:=b6 c
  refine((d3.sp v).1 hv).into hp0 nN.ok fun r' hr'=>?_;rcases wK.1 hr' with q1|q1
  ·exact hA r' q1
  ·obtain⟨z,hz,rfl⟩:=wL.1 q1
   obtain⟨z1,z2,z3⟩:=(near_sp hs h c (by omega) (by omega) d1 z).1 (.mem hp0 d2.ok hz);exact(near_sp hs h hn (by omega) (by omega) hN _).2 (df_near h c r z1 fun j hj hlt=> z3 (by omega) j hj (show q+r - 1 - (r - 1) < lv x n j by omega))
 ·exact(((b7 c).sp v).1 hv).into hp0 nN.ok hA
theorem df_bot{x:qd}(hs:qN x)(h:qI x){m:Nat}(hm:m+1 < x.Levels.length){r q:Int}(hr:0≤r∧r≤8)(hq: -10≤q∧q≤10){B B':List (List Int)}(hB:F185 x r ((m+1:Nat):Int) q=some B)(hB':F185 x r (m:Int) (q - r)=some B'):∀v,Sp x.Complex.Prime (dm x (m+1)) B v→Sp x.Complex.Prime (dm x m) B' (df x m v):=by
 have hp0:0 < x.Complex.Prime:=by have:=h.vc.p.range; omega
 obtain⟨B1,A,b1, -,b3,b4,b5,b6,b7⟩:=xE hs h hm (r:=r) (q:=q) (by omega) (by omega);rw[hB]at b1;obtain rfl:=wA b1;obtain⟨B2,A',c1, -,c3,c4,c5,c6,c7⟩:=xE hs h (n:=m) (by omega) (r:=r) (q:=q - r) (by omega) (by omega);rw[hB']at c1;obtain rfl:=wA c1;obtain⟨D,d1,d2,d3⟩:=c6 hm;rw[show q - r+r - 1=q - 1 by omega,b4]at d1;obtain rfl:=wA d1;have hL:=df_lin h hm;have hA:∀v∈A,Sp x.Complex.Prime (dm x m) B' (df x m v):=fun v hv=> by
  have hrow:Rows x.Complex.Prime (dm x m) (A'++low x m A):=fun r hr=> by
   rcases wK.1 hr with q1|q1
   ·exact c5.ok r q1
   ·exact low_ok h hm b5 r q1
  exact(d3.sp _).2 (.mem hp0 hrow (vF _ (List.mem_map_of_mem hv)))
 intro v hv;by_cases c:m+1+1 < x.Levels.length
 ·obtain⟨G,g1,g2,g3⟩:=b6 c
  have hrow:Rows x.Complex.Prime (dm x (m+1)) (A++low x (m+1) G):=fun r hr=> by
   rcases wK.1 hr with q1|q1
   ·exact b5.ok r q1
   ·exact low_ok h c g2 r q1
  refine(hL.sp hp0 hrow ((g3.sp v).1 hv)).into hp0 c3.ok fun r' hr'=>?_;obtain⟨y,hy,rfl⟩:=wL.1 hr';rcases wK.1 hy with q1|q1
  ·exact hA y q1
  ·obtain⟨z,hz,rfl⟩:=wL.1 q1
   have:df x m (df x (m+1) z)=zv (dm x m):=df_df h c (g2.ok z hz)
   change Sp _ _ _ (df x m (df x (m+1) z))
   rw[this];exact .zero
 ·refine(hL.sp hp0 b5.ok (((b7 c).sp v).1 hv)).into hp0 c3.ok fun r' hr'=>?_
  obtain⟨y,hy,rfl⟩:=wL.1 hr';exact hA y hy
def co(x:qd)(m:Nat)(T B':List (List Int))(z:List Int):List Int:=zC T (rest x.Complex.Prime B' (df x m z))
theorem F188_eq{p:Int}{w:Nat}(hp:IsP p){T B:List (List Int)}(hT:Red p w T)(hB:Red p w B){v:List Int}(hv:qJ p w v)(hw:w≤1000):F188 p v T B=some (zC T (rest p B v)):=by
 have hp0:0 < p:=by have:=hp.range; omega
 have hTl:=qK hT;have hok:=zV hp0 hB.ok hv;unfold F188;rw[F205_eq hp hB hv hw,ob,F101_eq hT hw,ob,zE (l:=T.map fun r=>(ld r:Int)) (fun i=> nth (rest p B v) i.toNat) (by simp; omega) (fun k hk s hsl=> by
  have hk':k < T.length:=by simpa using hk
  have hone:=hT.one _ (wB hk');unfold F188_1_B;rw[qm hk,ob,List.getElem_map,zJ (by rw[hok.len]; exact hone.1),ob,qH (by simp; simp at hsl; omega) (by simp; simp at hsl; omega),ob,vA]) (by intro i s; rfl),ob,vG]
 unfold zC;rw[List.map_map];rfl
theorem idx_loopW{α:Type}{l:List α}(g:Nat→α→α){S:List α×Int→Option ((List α×Int)⊕List α)}
  (hS:∀ (i:Nat) (hi:i < l.length) (s:List α),s.length=l.length→(∀k,s[k]? =if k < i then(l[k]?).map (g k)else l[k]?)→S (s,(i:Int))=some (.inl (s.set i (g i l[i]),(i:Int)+1))) (hE:∀s:List α,s.length=l.length→S (s,(l.length:Int))=some (.inr s)):qV S (l,0)=some (l.mapIdx g):=by
 obtain⟨t,h1,h2⟩:=qW (S:=S) (fun s=>(l.length - s.2).toNat) (fun s=>∃i:Nat,s.2=i∧i≤l.length∧s.1.length=l.length∧∀k,s.1[k]? =if k < i then(l[k]?).map (g k)else l[k]?) (fun t=> t=l.mapIdx g) (s:=(l,0)) ⟨0,rfl,vL _,rfl,fun k=> by simp⟩ (by
  rintro⟨s,j⟩ ⟨i,p0,p00,p1,p2⟩;simp only at p0 p1 p2;subst p0;by_cases hi:i < l.length
  ·left
   refine⟨_,hS i hi s p1 p2,⟨i+1,by simp,hi,by simp only[vW]; exact p1,fun k=>?_⟩,by simp only; omega⟩;simp only;rw[List.getElem?_set];by_cases e:i=k
   ·subst e; rw[if_pos rfl,if_pos (by omega),if_pos (by omega)]; simp[hi]
   ·rw[if_neg e,p2 k]
    by_cases q:k < i
    ·rw[if_pos q,if_pos (by omega)]
    ·rw[if_neg q,if_neg (by omega)]
  ·right
   have:i=l.length:=by omega
   subst this;refine⟨s,hE s p1,?_⟩;apply List.ext_getElem?;intro k;rw[p2 k,List.getElem?_mapIdx];by_cases q:k < l.length
   ·rw[if_pos q]
   ·rw[if_neg q,List.getElem?_eq_none (by omega)]; rfl)
 rw[h1,h2]
theorem F330_2_eq{p k:Int}{w:Nat}(hp:2≤p∧p≤7)(hk:0≤k∧k < p){r:List Int}(hr:qJ p w r){R:List (List Int)}{i:Nat}(hi:i < R.length)(ho:qJ p w R[i])(hw:w≤1048576):qV (xL p R (i:Int) k) (r,0)=some (subv p r R[i] k):=by
 have hl:=hr.len;have hol:=ho.len;rw[idx_loopW (l:=r) (S:=xL p R (i:Int) k) (fun j x=>(x - k*nth R[i] j)% p) (fun j hj s hs hk'=>?_) (fun s hs=>?_)]
 ·congr 1
  have hsl:(subv p r R[i] k).length=w:=by simp[subv,hl,hol]
  apply uC (by simp[hl,hsl]);intro j h1 h2;have hj:j < w:=by omega
  have:=zn (p:=p) (k:=k) hl hol hj;rw[qU h2,qU (show j < r.length by omega)]at this;rw[this]; simp
 ·have h1:s[j]? =r[j]?:=by rw[hk' j,if_neg (Nat.lt_irrefl _)]
  have h2:s[j]'(by omega)=r[j]:=by
   have:=h1;rw[List.getElem?_eq_getElem (by omega),List.getElem?_eq_getElem hj]at this;exact wA this
  have a1:=hr.rng j (by omega);rw[qU hj]at a1;have a2:=ho.rng j (by omega);have hm:0≤k*nth R[i] j∧k*nth R[i] j≤49:=by
   refine⟨Int.mul_nonneg (by omega) a2.1,?_⟩;have:=Int.mul_le_mul (show k≤7 by omega) (show nth R[i] j≤7 by omega) a2.1 (by decide);omega
  unfold xL;simp only;rw[if_pos (by omega),qm (show j < s.length by omega),ob,h2,qm hi,ob,zJ (by omega),ob,qo (by omega) (by omega),ob,qo (by omega) (by omega),ob,F127_eq hp,ob,zh (by omega),ob,qo (by omega) (by omega),ob]
 ·unfold xL
  simp only;rw[if_neg (by omega)]
theorem F330_eq{p:Int}{w:Nat}(hp:IsP p){R:List (List Int)}(hR:Red p w R){v:List Int}(hv:qJ p w v)(hw:w≤1000):F330 p v R=some (rest p R v):=by
 have hp0:0 < p:=by have:=hp.range; omega
 have hRl:=qK hR;unfold F330;rw[F94_eq (by rw[hv.len]; omega),ob];obtain⟨t,g1,g2⟩:=qx (B:=F330_1_B p R) (D:=F330_1_D p R) R.length rfl (by omega) (fun i s=> s=rest p (R.take i) v) (fun t=> t=rest p R v) (s:=v) rfl (by
  rintro i s hi rfl;left;have hri:=hR.ok _ (wB hi);have hro:=hR.one _ (wB hi);have hok:=zV hp0 (R:=R.take i) (fun r hr=> hR.ok r (wM hr)) hv;have hrng:=hok.rng _ hro.1;refine⟨_,?_,(rest_take hi).symm⟩;unfold F330_1_B;rw[qm hi,ob,F81_ld (by rw[hri.len]; omega),if_pos (by rw[hri.len]; exact hro.1),ob,zJ (by rw[hok.len]; exact hro.1),ob];by_cases c:nth (rest p (R.take i) v) (ld R[i])=0
  ·rw[if_pos c,c,sub_zero hp0 hok hri.len]
  ·rw[if_neg c,F330_2_eq hp.range hrng hok hi hri (by omega),ob]) (by
  rintro s rfl;exact⟨_,rfl,by rw[vH]⟩)
 rw[g1,ob,g2]
theorem js{x:qd}(hs:qN x)(h:qI x){n:Nat}(hn:n < x.Levels.length){r q:Int}(hr: -40≤r∧r≤40)(hq: -40≤q∧q≤40):
  ∃E,F187 x r (n:Int) q=some E∧F329 x r (n:Int) q=some E∧Red x.Complex.Prime (dm x n) E:=by
 have hp:=h.vc.p;have hd:=zo h hn;obtain⟨N,n1,n2,n3⟩:=jK hs h hn (r:=r) (q:=q) (by omega) (by omega);obtain⟨B,b1,b2,b3⟩:=xD hs h hn hr hq;have hNl:=qK n3;obtain⟨E,e1,e2,e3⟩:=basis_eq hs h hn hr hq n1 b1 n3 b3;refine⟨E,e1,?_,e3.red⟩;unfold F329;rw[n2,ob,b2,ob,zE (rest x.Complex.Prime B) (by omega) (fun k hk s hsl=> by
  have hv:=n3.ok _ (wB hk);unfold F329_1_B;rw[qm hk,ob,F330_eq hp b3 hv (by omega),ob,qH (by simp; simp at hsl; omega) (by simp; simp at hsl; omega),ob]) (by intro i s; rfl),ob,vG,e2,ob]
theorem pb_same{x:qd}(hs:qN x)(r n q:Int):∃w c,F321 x r n q=some ⟨w,c⟩∧F322 x r n q=some ⟨w,c⟩∧w.length≤1048576∧∀l∈w,l.length≤1048576:=by
 obtain⟨c,c1,c2,c3⟩:=page_code hs r n q;unfold F321 F322;rw[c1,c2,ob,ob];by_cases hc:c=0
 ·obtain⟨hv,hr,⟨hn0,hn1⟩,hq⟩:=c3 hc
  obtain⟨k,rfl⟩:∃k:Nat,n=k:=⟨n.toNat,by omega⟩;obtain⟨E,e1,e2,e3⟩:=js hs hv (n:=k) (by omega) (r:=r) (q:=q) (by omega) (by omega);have hd:=zo hv (n:=k) (by omega);have hEl:=qK e3;rw[if_pos hc,if_pos hc,e1,e2,ob];exact⟨_,_,rfl,rfl,by omega,fun l hl=> by rw[(e3.ok l hl).len]; omega⟩
 ·rw[if_neg hc,if_neg hc]
  exact⟨_,_,rfl,rfl,by simp,by simp⟩
theorem pd_none{x:qd}(hs:qN x)(h:qI x){n:Nat}(hn:n < x.Levels.length){r q:Int}(hr:0≤r∧r≤8)(hq:0≤q∧q≤5)(h0:n=0∨q < r):
  ∃Z,F329 x r (n:Int) q=some Z∧Z.length≤8∧F170 x r (n:Int) q=some (Z.map fun _=>([]:List Int)):=by
 have hd:=zo h hn;obtain⟨Z,z1,z2,z3⟩:=js hs h hn (r:=r) (q:=q) (by omega) (by omega);have hZl:=qK z3;refine⟨Z,z2,by omega,?_⟩;unfold F170;rw[z1,ob,zE (fun _=>([]:List Int)) (by omega) (fun k hk s hsl2=> by
  unfold F170_1_B;rw[qm hk,ob];by_cases c1:(0:Int) < n
  ·rw[if_pos c1,if_neg (by omega),qH (by simp; simp at hsl2; omega) (by simp; simp at hsl2; omega),ob]
  ·rw[if_neg c1,qH (by simp; simp at hsl2; omega) (by simp; simp at hsl2; omega),ob]) (by intro i s; rfl),ob,vG]
theorem pd_table{x:qd}(hs:qN x)(h:qI x){m:Nat}(hm:m+1 < x.Levels.length){r q:Int}(hr:0≤r∧r≤8)(hq:0≤q∧q≤5)(hrq:r≤q):
  ∃Z T B',F329 x r ((m+1:Nat):Int) q=some Z∧Red x.Complex.Prime (dm x (m+1)) Z∧F329 x r (m:Int) (q - r)=some T∧Red x.Complex.Prime (dm x m) T∧F279 x r (m:Int) (q - r)=some B'∧Red x.Complex.Prime (dm x m) B'∧F170 x r ((m+1:Nat):Int) q=some (Z.map (co x m T B')):=by
 have hp:=h.vc.p;have hsl:=hs.l;have hd:=zo h hm;have hd0:=zo h (n:=m) (by omega);obtain⟨Z,z1,z2,z3⟩:=js hs h hm (r:=r) (q:=q) (by omega) (by omega);obtain⟨T,t1,t2,t3⟩:=js hs h (n:=m) (by omega) (r:=r) (q:=q - r) (by omega) (by omega);obtain⟨B',b1,b2,b3⟩:=xD hs h (n:=m) (by omega) (r:=r) (q:=q - r) (by omega) (by omega);have hZl:=qK z3;refine⟨Z,T,B',z2,z3,t2,t3,b2,b3,?_⟩;unfold F170;rw[z1,ob,zE (co x m T B') (by omega) (fun k hk s hsl2=> by
  have hz:=z3.ok _ (wB hk);unfold F170_1_B;rw[qm hk,ob,if_pos (by omega),if_pos hrq,F91_df hs h hm hz,ob,qo (by omega) (by omega),ob,qo (by omega) (by omega),ob,show(((m+1:Nat):Int) - 1)=(m:Int) by omega,t1,ob,b1,ob,F188_eq hp t3 b3 (df_ok h hm hz) (by omega),ob,qH (by simp; simp at hsl2; omega) (by simp; simp at hsl2; omega),ob];rfl) (by intro i s; rfl),ob,vG]
theorem pd_same{x:qd}(hs:qN x)(r n q:Int):∃w c,F323 x r n q=some ⟨w,c⟩∧F324 x r n q=some ⟨w,c⟩∧w.length≤1048576∧∀l∈w,l.length≤1048576:=by
 obtain⟨c,c1,c2,c3⟩:=page_code hs r n q;unfold F323 F324;rw[c1,c2,ob,ob];by_cases hc:c=0
 ·obtain⟨hv,hr,⟨hn0,hn1⟩,hq⟩:=c3 hc
  obtain⟨k,rfl⟩:∃k:Nat,n=k:=⟨n.toNat,by omega⟩;have hsl:=hs.l;rw[if_pos hc,if_pos hc];by_cases h0:k=0∨q < r
  ·obtain⟨Z,z1,z2,z3⟩:=pd_none hs hv (n:=k) (by omega) hr hq h0
   have e:forR 0 (Z.length:Int) (F323_1_B Z) (F323_1_D Z) []=some (Z.map fun _=>([]:List Int)):=by
    rw[zE (fun _=>([]:List Int)) (by omega) (fun i hi s hsl2=> by
     unfold F323_1_B;rw[qH (by simp; simp at hsl2; omega) (by simp; simp at hsl2; omega),ob]) (by intro i s; rfl),vG]
   refine⟨Z.map fun _=>([]:List Int),0,?_,?_,by rw[vP]; omega,fun l hl=> by obtain⟨y, -,rfl⟩:=wL.1 hl; simp⟩
   ·rw[z1,ob]
    by_cases c4:(k:Int)=0
    ·rw[if_pos c4,e,ob]
    ·rw[if_neg c4,if_pos (by omega),e,ob]
   ·rw[z3,ob]
  ·obtain⟨m,rfl⟩:∃m,k=m+1:=⟨k - 1,by omega⟩
   have hm:m+1 < x.Levels.length:=by omega
   have hd:=zo hv hm;have hd0:=zo hv (n:=m) (by omega);have hp:=hv.vc.p;have hp0:0 < x.Complex.Prime:=by have:=hp.range; omega
   obtain⟨Z,T,B',z1,z2,t1,t2,b1,b2,f1⟩:=pd_table hs hv hm hr hq (by omega);have hZl:=qK z2;have hTl:=qK t2;have hlow:low x m Z=Z.map (df x m):=rfl;have hll:(low x m Z).length=Z.length:=by rw[hlow,vP]
   refine⟨Z.map (co x m T B'),0,?_,?_,by rw[vP]; omega,fun l hl=> by obtain⟨y, -,rfl⟩:=wL.1 hl; unfold co zC; rw[vP]; omega⟩
   ·rw[z1,ob,if_neg (by omega),if_neg (by omega),F281_eq hs hv hm z2,ob,qo (by omega) (by omega),ob,qo (by omega) (by omega),ob,show(((m+1:Nat):Int) - 1)=(m:Int) by omega,t1,ob,b1,ob,zE (fun v=> zC T (rest x.Complex.Prime B' v)) (by omega) (fun i hi s hsl2=> by
     have hi':i < Z.length:=by omega
     have hz:=z2.ok _ (wB hi');have hdo:=df_ok hv hm hz;have he:(low x m Z)[i]=df x m Z[i]:=by simp[low,df]
     have hok:=zV hp0 b2.ok hdo;unfold F323_2_B;rw[qm hi,ob,he,F330_eq hp b2 hdo (by omega),ob,zE (fun t=> nth (rest x.Complex.Prime B' (df x m Z[i])) (ld t)) (by omega) (fun j hj s3 hs3=> by
      have htl:=(t2.ok _ (wB hj)).len;have hone:=t2.one _ (wB hj);unfold F323_3_B;rw[qm hj,ob,F81_ld (by omega),if_pos (by rw[htl]; exact hone.1),ob,zJ (by rw[hok.len]; exact hone.1),ob,qH (by simp; simp at hs3; omega) (by simp; simp at hs3; omega),ob]) (by intro i s; rfl),ob,vG,qH (by simp; simp at hsl2; omega) (by simp; simp at hsl2; omega),ob]
     rfl) (by intro i s; rfl),ob,vG,hlow,List.map_map]
    rfl
   ·rw[f1,ob]
 ·rw[if_neg hc,if_neg hc]
  exact⟨_,_,rfl,rfl,by simp,by simp⟩
def LTells(o:Option (Unit⊕(Unit⊕Bool)))(P:Prop):Prop:=∃b:Bool,o=some (if b=true then .inl ()else .inr (.inr false))∧(b=true↔P)
theorem LTells.iff{o:Option (Unit⊕(Unit⊕Bool))}{P Q:Prop}(h:LTells o P)(e:P↔Q):LTells o Q:=by
 obtain⟨b,h1,h2⟩:=h; exact⟨b,h1,h2.trans e⟩
def WTells(o:Option (Int⊕(Unit⊕Bool)))(i:Int)(P:Prop):Prop:=∃b:Bool,o=some (if b=true then .inl (i+1)else .inr (.inr false))∧(b=true↔P)
theorem WTells.iff{o:Option (Int⊕(Unit⊕Bool))}{i:Int}{P Q:Prop}(h:WTells o i P)(e:P↔Q):WTells o i Q:=by
 obtain⟨b,h1,h2⟩:=h; exact⟨b,h1,h2.trans e⟩
def dc(x:qh)(n:Nat):Nat:=(x.Dims.getD n 0).toNat
structure PT (s0 ms:T3s) (φ:Nat→Nat→Nat→Nat×Nat×Nat) (val:Nat→Nat→Nat→Int) (D:Nat→Nat→Nat→Prop) (s:T3s):Prop where
 shp:Shp s s0
 at':∀k i j,InT ms k i j→(D k i j→numAt s (φ k i j).1 (φ k i j).2.1 (φ k i j).2.2=val k i j)∧(¬D k i j→numAt s (φ k i j).1 (φ k i j).2.1 (φ k i j).2.2=numAt s0 (φ k i j).1 (φ k i j).2.1 (φ k i j).2.2)
 out:∀a b c,InT s0 a b c→(∀k i j,InT ms k i j→φ k i j≠(a,b,c))→numAt s a b c=numAt s0 a b c
theorem PT.zero{s0 ms:T3s}{φ:Nat→Nat→Nat→Nat×Nat×Nat}{val:Nat→Nat→Nat→Int}:PT s0 ms φ val (fun _ _ _=> False) s0:=⟨.refl _,fun k i j _=>⟨fun x=> x.elim,fun _=> rfl⟩,fun _ _ _ _ _=> rfl⟩
structure WideC (x:qh):Prop where
 p:IsP x.Prime
 dl:1≤x.Dims.length∧x.Dims.length≤100
 ml:x.Maps.length+1=x.Dims.length
 dims:∀d∈x.Dims,0≤d∧d≤100
 tab:∀k,k < x.Maps.length→jP x k
theorem WideC.dim{x:qh}(h:WideC x){n:Nat}(hn:n < x.Dims.length):0≤x.Dims.getD n 0∧x.Dims.getD n 0≤100:=h.dims _ (qR hn 0)
theorem dc_lew{x:qh}(h:WideC x)(n:Nat):dc x n≤100:=by
 unfold dc;by_cases hn:n < x.Dims.length
 ·have:=h.dim hn; omega
 ·rw[List.getD_eq_getElem?_getD,List.getElem?_eq_none (by omega)]; simp
theorem dc_atw{x:qh}(h:WideC x){n:Nat}(hn:n < x.Dims.length):x.Dims.getD n 0=(dc x n:Int):=by
 have:=h.dim hn;unfold dc; omega
theorem concat2{a b:List (List Int)}(ha:a.length≤10000)(hb:b.length≤10000):F200 [a,b]=some (a++b):=by
 unfold F200;have h1:forR 0 ((([a,b]:List (List (List Int))).length:Nat):Int) (F200_1_B [a,b]) F200_1_D 0=some (((a.length+b.length:Nat):Int)):=by
  obtain⟨t,g1,g2⟩:=qx (B:=F200_1_B [a,b]) (D:=F200_1_D) (hi:=(([a,b]:List (List (List Int))).length:Int)) 2 rfl (by decide) (fun i s=> s=(((([a,b]:List (List (List Int))).take i).map List.length).sum:Nat)) (fun t=> t=(((a.length+b.length:Nat):Int))) (s:=0) rfl (by
   rintro i s hi rfl;left;unfold F200_1_B
   match i,hi with
   |0,_=> exact⟨_,by rw[show((0:Nat):Int)=((0:Nat):Int) from rfl,qm (l:=[a,b]) (i:=0) (by simp),ob,qo (by simp <;> omega) (by simp <;> omega),ob,if_neg (by simp <;> omega)],by simp⟩
   |1,_=> exact⟨_,by rw[qm (l:=[a,b]) (i:=1) (by simp),ob,qo (by simp <;> omega) (by simp <;> omega),ob,if_neg (by simp <;> omega)],by simp⟩) (by
   rintro s rfl;exact⟨_,rfl,by simp⟩)
  rw[g1,g2]
 have h2:forR 0 ((([a,b]:List (List (List Int))).length:Nat):Int) (F200_2_B [a,b]) F200_2_D []=some (a++b):=by
  obtain⟨t,g1,g2⟩:=qx (B:=F200_2_B [a,b]) (D:=F200_2_D) (hi:=(([a,b]:List (List (List Int))).length:Int)) 2 rfl (by decide) (fun i s=> s=(([a,b]:List (List (List Int))).take i).flatten) (fun t=> t=a++b) (s:=[]) rfl (by
   rintro i s hi rfl;left;unfold F200_2_B
   match i,hi with
   |0,_=> exact⟨_,by rw[qm (l:=[a,b]) (i:=0) (by simp),ob,qH (by simp; omega) (by simp; omega),ob],by simp⟩
   |1,_=> exact⟨_,by rw[qm (l:=[a,b]) (i:=1) (by simp),ob,qH (by simp; omega) (by simp; omega),ob],by simp⟩) (by
   rintro s rfl;exact⟨_,rfl,by simp⟩)
  rw[g1,g2]
 rw[h1,ob,if_pos (by omega),h2]
theorem lin_okof{p:Int}(hp:IsP p){c w:Nat}{m:List (List Int)}(hml:m.length=c)(hm:Rows p w m)(hc:c≤1000)(hw:w≤1000){v:List Int}(hv:qJ p c v):LinOK p w v m:=by
 have hvl:=hv.len;exact⟨hp.range,fun y hy=> by
  obtain⟨k,hk,rfl⟩:=wN hy;have:=hv.rng k (by omega)
  rwa[qU hk]at this,by omega,fun l hl=>⟨(hm l hl).len,fun y hy=> by
  have hl':=hm l hl;have hll:=hl'.len;obtain⟨k,hk,rfl⟩:=wN hy;have:=hl'.rng k (by omega)
  rwa[qU hk]at this⟩,by omega,by omega⟩
theorem lin_vec{p:Int}{w:Nat}{m:List (List Int)}{v:List Int}(H:LinOK p w v m):qJ p w (lin p w v m):=by
 have hok:=linN_ok H v.length (wD _);refine⟨hok.1,fun j hj=>?_⟩;have hj':j < (lin p w v m).length:=by rw[lin_len H]; exact hj
 rw[qU hj'];exact hok.2 _ (wB hj')
theorem F212_eq{l:T3s}{f:List (List Int)→Option Bool}(P:List (List Int)→Bool)(hl:l.length≤1099511627776)(hf:∀x∈l,f x=some (P x)):∃i:Int,F212 l f=some i∧(0≤i↔∃x∈l,P x=true):=by
 unfold F212;have hs:l.length < 4611686018427387904:=by omega
 obtain⟨t,h1,h2⟩:=qx (B:=F212_1_B l f) (D:=F212_1_D l f) (hi:=l.length) l.length rfl hs (fun i _=>∀k (hk:k < i) (h2:k < l.length),P l[k]=false) (fun t=>(t= .inl ()∧∀x∈l,P x=false)∨∃i:Nat,t= .inr (i:Int)∧∃x∈l,P x=true) (s:=()) (fun k hk=> by omega) (by
  intro i _ hi hI;unfold F212_1_B;rw[qm hi,ob,hf _ (wB hi),ob];cases hp:P l[i]with
  |true=> right; exact⟨_,rfl,.inr ⟨i,rfl,_,wB hi,hp⟩⟩
  |false=>
   left;refine⟨(),rfl,fun k hk h2=>?_⟩;by_cases e:k=i
   ·subst e; exact hp
   ·exact hI k (by omega) h2) (by
  intro _ hI;refine⟨.inl (),rfl,.inl ⟨rfl,fun x hx=>?_⟩⟩;obtain⟨k,hk,rfl⟩:=wN hx;exact hI k hk hk)
 rw[h1];rcases h2 with⟨rfl,h2⟩|⟨i,rfl,h2⟩
 ·exact⟨-1,rfl,⟨fun h=> by omega,fun⟨x,hx,hp⟩=> by rw[h2 x hx]at hp; cases hp⟩⟩
 ·exact⟨i,rfl,⟨fun _=> h2,fun _=> Int.natCast_nonneg i⟩⟩
theorem F208_eq{l:T3s}{f:List (List Int)→Option Bool}(P:List (List Int)→Bool)(hl:l.length≤1099511627776)(hf:∀x∈l,f x=some (P x)):F208 l f=some (l.any P):=by
 obtain⟨i,h1,h2⟩:=F212_eq P hl hf;unfold F208;rw[h1,ob];have:decide (0≤i)=l.any P:=by
  rw[yV];simp only[decide_eq_true_eq,vS];exact h2
 rw[this]
theorem app_rows{p:Int}{w:Nat}{A B:List (List Int)}(hA:Rows p w A)(hB:Rows p w B):Rows p w (A++B):=fun r hr=>(wK.1 hr).elim (hA r) (hB r)
theorem hole_count{p:Int}{w:Nat}(hp:IsP p){B K E:List (List Int)}(hB:Red p w B)(hK:Red p w K)(hBK:∀b∈B,Sp p w K b)(hE:zj p w (K.map (rest p B)) E):K.length=B.length+E.length:=by
 have hp1:1 < p:=by have:=hp.range; omega
 have hp0:0 < p:=by omega
 have hsame:zj p w (B++K) K:=⟨hK,fun v=>⟨fun h=> h.mono fun r hr=> vF _ hr,fun h=> Sp.into hp0 hK.ok (fun r hr=>(wK.1 hr).elim (hBK r) fun q=> .mem hp0 hK.ok q) h⟩⟩;have L:=rest_lin hp0 hB.ok fun r hr=>(hB.one r hr).1;refine rank_pair hp1 hp.inv hB.ok (zj.self hB) (Z:=K) (f:=id) (g:=rest p B) (fun z hz=> hK.ok z hz) (fun z hz=> zV hp0 hB.ok (hK.ok z hz)) (fun k hk=>?_) (by rw[List.map_id]; exact hsame) hE;have hT:Rows p w (K.take k):=fun r hr=> hK.ok r (wM hr);have hv:=hK.ok _ (wB hk);have hBT:=app_rows hB.ok hT;rw[List.map_id];show Sp p w (B++K.take k) K[k]↔_;constructor
 ·intro h
  have h':=L.sp hp0 hBT h;refine Sp.into hp0 (L.rows hT) (fun r hr=>?_) h';obtain⟨b,hb,rfl⟩:=wL.1 hr;rcases wK.1 hb with q|q
  ·rw[(zY hp0 hB (hB.ok b q)).2 (.mem hp0 hB.ok q)]; exact .zero
  ·exact .mem hp0 (L.rows hT) (wL.2 ⟨b,q,rfl⟩)
 ·intro h
  obtain⟨u,hu,e⟩:=L.lift hp0 hT h;have hBs:∀r∈B,Sp p w (B++K.take k) r:=fun r hr=> .mem hp0 hBT (vJ _ hr);have hu':Sp p w (B++K.take k) u:=hu.mono fun r hr=> vF _ hr;refine(jb hp0 hBT hB.ok hBs hv).1 ?_;rw[←e];exact(jb hp0 hBT hB.ok hBs (hu.ok hp0 hT)).2 hu'
theorem wide_rows{x:qh}(h:WideC x){k:Nat}(hk:k+1 < x.Dims.length):(x.Maps.getD k []).length=dc x (k+1)∧Rows x.Prime (dc x k) (x.Maps.getD k []):=by
 have hml:=h.ml;have ht:=h.tab k (by omega);have hd:=h.dim hk;exact⟨by have:=ht.1; unfold dc; omega,fun r hr=>(ht.2 r hr).vec⟩
structure zz (s:ql):Prop where
 at0:0≤s.at_
 len:s.code.length≤1099511627776
 byte:∀b∈s.code,0≤b.val∧b.val≤255
theorem mask_ok(x:Int):0≤Go.IntKind.wrap .u64 (BitVec.ofInt (Go.IntKind.bits .u64) x &&& BitVec.ofInt (Go.IntKind.bits .u64) 16777215).toNat∧Go.IntKind.wrap .u64 (BitVec.ofInt (Go.IntKind.bits .u64) x &&& BitVec.ofInt (Go.IntKind.bits .u64) 16777215).toNat≤16777215:=by
 have h:(BitVec.ofInt (Go.IntKind.bits .u64) x &&& BitVec.ofInt (Go.IntKind.bits .u64) 16777215).toNat≤16777215:=by
  rw[BitVec.toNat_and];exact vT Nat.and_le_right (by decide)
 have e:∀m:Nat,m≤16777215→Go.IntKind.wrap .u64 (m:Int)=(m:Int):=fun m hm=> by
  unfold Go.IntKind.wrap;simp[Go.IntKind.bits,Go.IntKind.signed];omega
 rw[e _ h];omega
theorem zw{s:ql}(hs:zz s)(n:Int):∃v s',F416 s n=some ⟨v,s'⟩∧zz s'∧0≤v∧(1≤n→v < n)∧(n < 1→v=0):=by
 have h1:=hs.at0;have h2:=hs.len;unfold F416;by_cases c:n < 1
 ·rw[if_pos c]; exact⟨_,_,rfl,hs,by omega,fun q=> by omega,fun _=> rfl⟩
 rw[if_neg c];obtain⟨m1,m2⟩:=mask_ok (Int.fdiv (Go.IntKind.wrap .u64 ((Go.IntKind.wrap .u64 (s.hash*6364136223846793005))+1442695040888963407)) (2^min 33 (Go.IntKind.bits .u64)));generalize Go.IntKind.wrap .u64 (BitVec.ofInt (Go.IntKind.bits .u64) (Int.fdiv (Go.IntKind.wrap .u64 ((Go.IntKind.wrap .u64 (s.hash*6364136223846793005))+1442695040888963407)) (2^min 33 (Go.IntKind.bits .u64)))&&& BitVec.ofInt (Go.IntKind.bits .u64) 16777215).toNat=X at m1 m2 ⊢;rw[qo (by omega) (by omega),ob];have md:∀Y:Int,0≤Y→remI Y n=some (Y.tmod n)∧0≤Y.tmod n∧Y.tmod n < n:=fun Y hY=>⟨xx (by omega),Int.tmod_nonneg _ hY,Int.tmod_lt_of_pos _ (by omega)⟩;by_cases c2:s.at_ < (s.code.length:Int)
 ·obtain⟨i,hi⟩:∃i:Nat,s.at_=(i:Int):=⟨s.at_.toNat,by omega⟩
  have hil:i < s.code.length:=by omega
  obtain⟨b1,b2⟩:=hs.byte _ (wB hil);obtain⟨r1,r2,r3⟩:=md (X+s.code[i].val) (by omega);rw[if_pos c2,hi,qm hil,ob,qo (by omega) (by omega),ob,qo (by omega) (by omega),ob,qo (by omega) (by omega),ob,r1,ob];exact⟨_,_,rfl,⟨by simp only; omega,h2,hs.byte⟩,r2,fun _=> r3,fun q=> absurd q c⟩
 ·obtain⟨r1,r2,r3⟩:=md X m1
  rw[if_neg c2,r1,ob];exact⟨_,_,rfl,⟨h1,h2,hs.byte⟩,r2,fun _=> r3,fun q=> absurd q c⟩
theorem xg{s:ql}(hs:zz s){l:List Int}(hl:l≠ [])(hb:l.length≤1000):∃v s',F412 s l=some ⟨v,s'⟩∧zz s'∧v∈l:=by
 have h0:0 < l.length:=List.length_pos_iff.2 hl;obtain⟨v,s',e,h1,h2,h3, -⟩:=zw hs (l.length:Int);have h4:=h3 (by omega);obtain⟨i,hi⟩:∃i:Nat,v=(i:Int):=⟨v.toNat,by omega⟩;subst hi;have hil:i < l.length:=by omega
 unfold F412;rw[e,ob,qm hil,ob];exact⟨_,_,rfl,h1,wB hil⟩
theorem near_ok{s:ql}(hs:zz s){m:Int}(h0: -1000≤m)(h1:m≤1000000):∃v s',F411 s m=some ⟨v,s'⟩∧zz s'∧ -4611686018427387904≤v∧v≤1099511627776:=by
 obtain⟨v,s',e,k1,k2,k3, -⟩:=zw hs 14;unfold F411;rw[e,ob];simp only;by_cases c:v=0
 ·obtain⟨u,t,e2,k4,k5⟩:=xg k1 (l:=[(-1),m+1,1099511627776,(-4611686018427387904)]) (by simp) (by simp)
  rw[if_pos c,qo (by omega) (by omega),ob,e2,ob];refine⟨u,t,rfl,k4,?_⟩;simp only[wY,yG,or_false]at k5;rcases k5 with rfl|rfl|rfl|rfl <;> omega
 ·obtain⟨u,t,e2,k4,k5,k6,k7⟩:=zw k1 (m+1)
  rw[if_neg c,qo (by omega) (by omega),ob,e2,ob];refine⟨u,t,rfl,k4,by omega,?_⟩;by_cases q:1≤m+1
  ·have:=k6 q; omega
  ·have:=k7 (by omega); omega
theorem vector_ok{s:ql}(hs:zz s){p:Int}(hp:1≤p){n:Nat}(hn:n≤1000):∃v s',F424 s p (n:Int)=some ⟨v,s'⟩∧zz s'∧v.length=n∧∀y∈v,0≤y∧y < p:=by
 obtain⟨c,s1,e,k1,k2,k3, -⟩:=zw hs 3;unfold F424;rw[e,ob];obtain⟨t,g1,g2⟩:=qW (S:=F424_1_S p ⟨c,s1⟩) (fun s=>(s.2.2.2.2).toNat) (fun s=>∃ (q:ql) (o:List Int) (m:Nat),s=(q.code,q.at_,q.hash,o,(m:Int))∧zz q∧o.length+m=n∧∀y∈o,0≤y∧y < p)
  (fun t=>∃ (q:ql) (o:List Int),t=(q.code,q.at_,q.hash,o)∧zz q∧o.length=n∧∀y∈o,0≤y∧y < p) (s:=(s1.code,s1.at_,s1.hash,[],(n:Int))) ⟨s1,[],n,rfl,k1,by simp,fun y hy=> nomatch hy⟩ (by
  rintro _ ⟨q,o,m,rfl,h1,h2,h3⟩;unfold F424_1_S;simp only;by_cases cm:0 < (m:Int)
  ·left
   rw[if_pos cm];have ext:∀y,0≤y→y < p→∀z∈o++[y],0≤z∧z < p:=fun y y0 y1 z hz=> by
    rcases wK.1 hz with hz|hz
    ·exact h3 z hz
    ·rw[List.mem_singleton.1 hz]; exact⟨y0,y1⟩
   by_cases cc:c=0
   ·obtain⟨x,q2,e2,j1,j2,j3, -⟩:=zw h1 p
    rw[if_pos cc,e2,ob,qH (by simp; omega) (by simp; omega),ob,qo (by omega) (by omega),ob];exact⟨_,rfl,⟨q2,o++[x],m - 1,by simp only[wG,true_and]; omega,j1,by simp; omega,ext x j2 (j3 hp)⟩,by simp only; omega⟩
   ·obtain⟨x0,q1,e1,i1,i2,i3, -⟩:=zw h1 2
    rw[if_neg cc,e1,ob];simp only;by_cases c0:x0=0
    ·obtain⟨x,q2,e2,j1,j2,j3, -⟩:=zw i1 p
     rw[if_pos c0,e2,ob,qH (by simp; omega) (by simp; omega),ob,qo (by omega) (by omega),ob];exact⟨_,rfl,⟨q2,o++[x],m - 1,by simp only[wG,true_and]; omega,j1,by simp; omega,ext x j2 (j3 hp)⟩,by simp only; omega⟩
    ·rw[if_neg c0,qH (by simp; omega) (by simp; omega),ob,qo (by omega) (by omega),ob]
     exact⟨_,rfl,⟨q1,o++[0],m - 1,by simp only[wG,true_and]; omega,i1,by simp; omega,ext 0 (by omega) (by omega)⟩,by simp only; omega⟩
  ·right
   rw[if_neg cm];exact⟨_,rfl,⟨q,o,rfl,h1,by omega,h3⟩⟩)
 obtain⟨q,o,rfl,h1,h2,h3⟩:=g2;rw[g1,ob];exact⟨o,q,rfl,h1,h2,h3⟩
theorem from_ok{code:List U8}(hl:code.length≤1099511627776)(hb:∀b∈code,0≤b.val∧b.val≤255):∃s,F405 code=some s∧zz s:=by
 unfold F405;obtain⟨t,g1, -⟩:=qW (S:=F405_S code) (fun s=>(4096 - s.1).toNat) (fun s=> 0≤s.1) (fun _=> True) (s:=(0,Go.IntKind.wrap .u64 (12731+Go.IntKind.wrap .u64 (code.length:Int)))) (yC 0) (by
  rintro⟨i,h⟩ h0;simp only at h0;unfold F405_S;simp only;by_cases c1:i < (code.length:Int)
  ·rw[if_pos c1]
   by_cases c2:i < 4096
   ·left
    obtain⟨k,rfl⟩:∃k:Nat,i=(k:Int):=⟨i.toNat,by omega⟩;rw[if_pos c2,qm (by omega),ob,qo (by omega) (by omega),ob];exact⟨_,rfl,by simp only; omega,by simp only; omega⟩
   ·right; rw[if_neg c2]; exact⟨_,rfl,trivial⟩
  ·right; rw[if_neg c1]; exact⟨_,rfl,trivial⟩)
 rw[g1,ob];exact⟨_,rfl,⟨by simp only; omega,hl,hb⟩⟩
theorem take_one{α:Type}{l:List α}{n:Nat}(d:α)(h:n < l.length):l.take n++[l.getD n d]=l.take (n+1):=by
 rw[List.getD_eq_getElem?_getD,List.getElem?_eq_getElem h];exact wT h
theorem eq_loop'{n:Nat}{B:Int→Unit→Option (Unit⊕(Unit⊕Bool))}{D:Int→Unit→Option (Unit⊕Bool)}(hn:n≤1048576)(hB:∀ (i:Nat),i < n→B i ()=some (.inl ()))(hD:∀i,D i ()=some (.inl ())):forR 0 (n:Int) B D ()=some (.inl ()):=by
 obtain⟨t,g1,g2⟩:=qx (B:=B) (D:=D) n rfl (by omega) (fun _ _=> True) (fun t=> t= .inl ()) (s:=()) trivial (fun i s hi _=> .inl ⟨(),hB i hi,trivial⟩) (fun s _=>⟨_,hD _,rfl⟩);rw[g1,g2]
theorem F156_same{l:List Int}(h:l.length≤1000):F156 l l=some true:=by
 unfold F156;rw[if_pos rfl,eq_loop' (by omega) (fun i hi=> by
  unfold F156_1_B;rw[qn hi 0,ob,ob,if_pos rfl]) fun i=> rfl,ob]
theorem wide_small{x:qh}(h:WideC x):jD x:=by
 have hml:=h.ml;have hdl:=h.dl;refine⟨by omega,by omega,fun m hm=>?_⟩;obtain⟨k,hk,rfl⟩:=wN hm;obtain⟨r1,r2⟩:=wide_rows h (k:=k) (by omega);rw[mapsD hk]at r1 r2;have a:=dc_lew h (k+1);have b:=dc_lew h k;exact⟨by omega,fun r hr=> by have:=(r2 r hr).len; omega⟩
theorem vec_of{p:Int}{w:Nat}{v:List Int}(hl:v.length=w)(h:∀y∈v,0≤y∧y < p):qJ p w v:=⟨hl,fun j hj=> by
 rw[qU (by omega)]; exact h _ (wB (by omega))⟩
theorem jL{α:Type}{l m:List α}{k:Nat}{d:α}(h:k < l.length):(l++m).getD k d=l.getD k d:=by
 rw[List.getD_eq_getElem?_getD,List.getElem?_append_left h,List.getD_eq_getElem?_getD]
theorem getD_app_one{α:Type}{l:List α}{y d:α}:(l++[y]).getD l.length d=y:=by
 rw[List.getD_eq_getElem?_getD,List.getElem?_append_right (wD _),uH]; rfl
theorem wide_snoc{x:qh}(h:WideC x){d:Nat}{rows:List (List Int)}(hd:d≤8)(hr:rows.length=d)(hR:Rows x.Prime (dc x (x.Dims.length - 1)) rows)(hl:x.Dims.length≤99):WideC ⟨x.Prime,x.Dims++[(d:Int)],x.Maps++[rows]⟩:=by
 have hml:=h.ml;have hdl:=h.dl;refine⟨h.p,by simp; omega,by simp; omega,fun e he=>?_,fun k hk=>?_⟩
 ·rcases wK.1 he with q|q
  ·exact h.dims e q
  ·rw[List.mem_singleton.1 q]; omega
 ·simp only[wP,List.length_singleton]at hk
  unfold jP;simp only;by_cases c:k < x.Maps.length
  ·have:=h.tab k c
   unfold jP at this;rw[jL (by omega),jL (by omega),jL c];exact this
  ·have hk':k=x.Maps.length:=by omega
   have e1:(x.Dims++[(d:Int)]).getD (k+1) 0=(d:Int):=by rw[show k+1=x.Dims.length by omega,getD_app_one]
   have e2:(x.Dims++[(d:Int)]).getD k 0=(dc x (x.Dims.length - 1):Int):=by
    rw[jL (by omega),show k=x.Dims.length - 1 by omega];exact dc_atw h (by omega)
   rw[e1,e2,hk',getD_app_one];refine⟨by omega,fun r hr'=>?_⟩;have v:=hR r hr';refine⟨by rw[v.len],fun y hy=>?_⟩;obtain⟨j,hj,rfl⟩:=wN hy;have:=v.rng j (by have:=v.len; omega)
   rwa[qU hj]at this
structure DrawnC (x:qh):Prop where
 w:WideC x
 l:x.Dims.length≤6
 d:∀e∈x.Dims,0≤e∧e≤8
theorem cyc_one{x:qh}(hx:jD x)(h:WideC x){n:Nat}(hn:n < x.Dims.length):∃K,F98 x (n:Int)=some K∧Red x.Prime (dc x n) K:=by
 have hp1:1 < x.Prime:=by have:=h.p.range; omega
 have hd:=h.dim hn;have hml:=h.ml;have hxd:=hx.d;unfold F98;rw[F99_at hx.d hn,ob];rcases Nat.eq_zero_or_pos n with h0|h0
 ·subst h0
  have hdn:x.Dims.getD 0 0=(dc x 0:Int):=dc_atw h hn;rw[show((0:Nat):Int)=0 from rfl,F76_0 hx.d hn hdn (by omega),ob,hdn,kernel_none h.p (by omega),ob];exact⟨_,rfl,units_red hp1 _⟩
 ·obtain⟨k,rfl⟩:∃k,n=k+1:=⟨n - 1,by omega⟩
  have hk:k < x.Maps.length:=by omega
  have ht:=h.tab k hk;have hdk:=h.dim (show k < x.Dims.length by omega);have hr:Rows x.Prime (dc x k) (x.Maps.getD k []):=fun r hr=>(ht.2 r hr).vec;have hlen:=ht.1;have hdc:dc x (k+1)=(x.Maps.getD k []).length:=by unfold dc; omega
  have hw:=dc_lew h k;obtain⟨K,k1, -,k3, -⟩:=kernel_full h.p hr (by omega) (by omega);rw[F76_eq hx.d hn hk,ob,←hlen,k1,ob,hdc];exact⟨_,rfl,k3⟩
theorem drawOf_ok{s:ql}(hs:zz s){p:Int}(hp:IsP p){D:List Int}(hl:1≤D.length∧D.length≤6)(hD:∀d∈D,0≤d∧d≤8):∃x s',F417 s p D=some ⟨x,s'⟩∧zz s'∧DrawnC x∧x.Prime=p∧x.Dims=D:=by
 have hpr:=hp.range;have d0:=hD _ (qR (show 0 < D.length by omega) 0);unfold F417;rw[show(0:Int)=((0:Nat):Int) from rfl,qn (show 0 < D.length by omega) 0,ob];obtain⟨t,g1,g2⟩:=forR_from (B:=F417_1_B p D) (D:=F417_1_D) (lo:=1) (hi:=(D.length:Int)) 1 D.length rfl rfl hl.1 (by omega) (fun n s=> 1≤n∧zz s.1∧WideC s.2∧s.2.Prime=p∧s.2.Dims=D.take n) (fun t=> zz t.1∧WideC t.2∧t.2.Prime=p∧t.2.Dims=D) (s:=(s,⟨p,[D.getD 0 0],[]⟩)) ⟨wD _,hs,⟨hp,by simp,by simp,fun e he=> by rw[List.mem_singleton.1 he]; omega,fun k hk=> absurd hk (by simp)⟩,rfl,by
   obtain⟨a,r,rfl⟩:∃a r,D=a::r:=by cases D with|nil=> simp at hl|cons a r=> exact⟨a,r,rfl⟩
   rfl⟩ (by
  rintro n ⟨q,x⟩ hn ⟨h1,h2,h3,h4,h5⟩;left;simp only at h2 h3 h4 h5;obtain⟨m,rfl⟩:∃m,n=m+1:=⟨n - 1,by omega⟩;have hxl:x.Dims.length=m+1:=by rw[h5,yH]; omega
  obtain⟨K,k1,k3⟩:=cyc_one (wide_small h3) h3 (n:=m) (by omega);rw[h4]at k3;have hKl:=qK k3;have hml:=h3.ml;have hdm:D.getD m 0=(dc x m:Int):=by
   rw[←dc_atw h3 (show m < x.Dims.length by omega),h5,List.getD_eq_getElem?_getD,List.getD_eq_getElem?_getD,List.getElem?_take_of_lt (by omega)]
  have hd8:=hD _ (qR (show m < D.length by omega) 0);have hdn:=hD _ (qR hn 0);obtain⟨d,hd⟩:∃d:Nat,D.getD (m+1) 0=(d:Int):=⟨(D.getD (m+1) 0).toNat,by omega⟩;have L:∃t,qV (F417_2_S p D K ((m+1:Nat):Int)) ((q,[]),0)=some t∧(zz t.1∧t.2.length=d∧Rows p (dc x m) t.2):=by
   refine qW (S:=F417_2_S p D K ((m+1:Nat):Int)) (fun s=>((d:Int) - s.2).toNat) (fun s=>∃i:Nat,i≤d∧s.2=(i:Int)∧zz s.1.1∧s.1.2.length=i∧Rows p (dc x m) s.1.2) _ ⟨0,by omega,rfl,h2,rfl,fun r hr=> nomatch hr⟩ ?_;rintro⟨⟨u,R⟩,i'⟩ ⟨i,p1,p2,p3,p4,p5⟩;simp only at p2 p3 p4 p5;subst p2;unfold F417_2_S;simp only;rw[qn hn 0,ob,hd];by_cases c:i < d
   ·left
    obtain⟨v,u',e1,f1,f2,f3⟩:=vector_ok p3 (show 1≤p by omega) (n:=K.length) (by omega);have hv:qJ p K.length v:=vec_of f2 f3;have H:LinOK p (dc x m) v K:=lin_okof hp rfl k3.ok (by omega) (by omega) hv;rw[if_pos (by omega),e1,ob,qo (by omega) (by omega),ob,show((m+1:Nat):Int) - 1=(m:Int) by omega,qn (show m < D.length by omega) 0,ob,hdm,F80_eq H rfl,ob,qH (by simp only[List.length_singleton]; omega) (by simp only[List.length_singleton]; omega),ob,qo (by omega) (by omega),ob];refine⟨_,rfl,⟨i+1,by omega,rfl,f1,by simp[p4],fun r hr=>?_⟩,by simp only; omega⟩;rcases wK.1 hr with z|z
    ·exact p5 r z
    ·rw[List.mem_singleton.1 z]; exact lin_vec H
   ·right
    rw[if_neg (by omega)];exact⟨_,rfl,p3,by simp only; omega,p5⟩
  obtain⟨⟨u,R⟩,l1,l2,l3,l4⟩:=L;simp only at l2 l3 l4;refine⟨(u,⟨x.Prime,x.Dims++[(d:Int)],x.Maps++[R]⟩),?_,by omega,l2,wide_snoc h3 (by omega) l3 (by rw[hxl,h4]; exact l4) (by omega),h4,?_⟩
  ·unfold F417_1_B
   simp only;rw[qo (by omega) (by omega),ob,show((m+1:Nat):Int) - 1=(m:Int) by omega,k1,ob,l1,ob,qn hn 0,ob,hd,qH (by simp only[List.length_singleton]; omega) (by simp only[List.length_singleton]; omega),ob,qH (by simp only[List.length_singleton]; omega) (by simp only[List.length_singleton]; omega),ob]
  ·simp only
   rw[h5,←hd];exact take_one 0 hn) (by
  rintro⟨q,x⟩ ⟨h1,h2,h3,h4,h5⟩;exact⟨_,rfl,h2,h3,h4,by simp only at h5 ⊢; rw[h5,wQ (by omega)]⟩)
 rw[g1,ob];obtain⟨f1,f2,f3,f4⟩:=g2;exact⟨t.2,t.1,rfl,f1,⟨f2,by rw[f4]; exact hl.2,by rw[f4]; exact hD⟩,f3,f4⟩
theorem draw_ok{s:ql}(hs:zz s):∃x s',F415 s=some ⟨x,s'⟩∧zz s'∧DrawnC x:=by
 unfold F415 F423;obtain⟨p,s1,e1,k1,k2⟩:=xg hs (l:=[2,2,3,3,5,7]) (by simp) (by simp);have hp:IsP p:=by
  simp only[wY,yG,or_false]at k2;unfold IsP; omega
 obtain⟨a,s2,e2,k3,k4,k5, -⟩:=zw k1 6;have k5':=k5 (by omega);obtain⟨b,s3,e3,k6,k7⟩:=xg k3 (l:=[0,1,2,2,3,a]) (by simp) (by simp);have hb:0≤b∧b≤5:=by
  simp only[wY,yG,or_false]at k7;omega
 rw[e1,ob,ob];simp only;rw[e2,ob];simp only;rw[e3,ob];simp only;rw[qo (by omega) (by omega),ob];obtain⟨N,hN⟩:∃N:Nat,1+b=(N:Int):=⟨(1+b).toNat,by omega⟩;rw[hN];have L:∃t,qV (F415_1_S ⟨p,s1⟩) (s3.code,s3.at_,s3.hash,[],(N:Int))=some t∧(∃ (q:ql) (o:List Int),t=(q.code,q.at_,q.hash,o)∧zz q∧o.length=N∧∀d∈o,0≤d∧d≤8):=by
  refine qW (S:=F415_1_S ⟨p,s1⟩) (fun s=>(s.2.2.2.2).toNat) (fun s=>∃ (q:ql) (o:List Int) (m:Nat),s=(q.code,q.at_,q.hash,o,(m:Int))∧zz q∧o.length+m=N∧∀d∈o,0≤d∧d≤8) _ ⟨s3,[],N,rfl,k6,by simp,fun y hy=> nomatch hy⟩ ?_;rintro _ ⟨q,o,m,rfl,h1,h2,h3⟩;unfold F415_1_S;simp only;by_cases cm:0 < (m:Int)
  ·left
   obtain⟨c,q1,f1,f2,f3,f4, -⟩:=zw h1 9;have f4':=f4 (by omega);obtain⟨y,q2,i1,i2,i3⟩:=xg f2 (l:=[0,1,1,2,2,3,4,c]) (by simp) (by simp);have hy:0≤y∧y≤8:=by
    simp only[wY,yG,or_false]at i3;omega
   rw[if_pos cm,f1,ob];simp only;rw[i1,ob,qH (by simp; omega) (by simp; omega),ob,qo (by omega) (by omega),ob];refine⟨_,rfl,⟨q2,o++[y],m - 1,by simp only[wG,true_and]; omega,i2,by simp; omega,fun z hz=>?_⟩,by simp only; omega⟩;rcases wK.1 hz with hz|hz
   ·exact h3 z hz
   ·rw[List.mem_singleton.1 hz]; exact hy
  ·right
   rw[if_neg cm];exact⟨_,rfl,q,o,rfl,h1,by omega,h3⟩
 obtain⟨_,g1,q,o,rfl,h1,h2,h3⟩:=L;rw[g1,ob];simp only;obtain⟨x,s',e4,j1,j2, -⟩:=drawOf_ok h1 hp (D:=o) (by omega) h3;have e4':F417 ⟨q.code,q.at_,q.hash⟩ p o=some ⟨x,s'⟩:=e4;rw[e4',ob];exact⟨x,s',rfl,j1,j2⟩
theorem shp_small{s u:T3s}(h:Shp s u)(hu:SmallT u):SmallT s:=by
 refine⟨by rw[h.l]; exact hu.m,fun m hm=>?_⟩;obtain⟨k,hk,rfl⟩:=wN hm;have hk':k < u.length:=by rw[←h.l]; exact hk
 have a:=hu.r _ (qR hk' []);have e:s.getD k []=s[k]:=by simp[hk]
 have t:=h.t k hk';rw[e]at t;refine⟨by omega,fun r hr=>?_⟩;obtain⟨i,hi,rfl⟩:=wN hr;have hi':i < (u.getD k []).length:=by omega
 have b:=a.2 _ (qR hi' []);have e2:(s[k]).getD i []=(s[k])[i]:=by simp[hi]
 have r2:=h.r k hk' i hi';rw[e,e2]at r2;omega
theorem bad_loop2{p:Int}(hp:2≤p∧p≤7){u:T3s}(hu:SmallT u){k:Nat}(hk:k < u.length){q:ql}{ms:T3s}(hq:zz q)(hs:Shp ms u):∃t,qV (F421_2_S p (k:Int)) ((q,ms),0)=some t∧zz t.1∧Shp t.2 u:=by
 have ha:=hu.r _ (qR hk []);refine qW (S:=F421_2_S p (k:Int)) (fun s=>(((u.getD k []).length:Int) - s.2).toNat) (fun s=>∃i:Nat,i≤(u.getD k []).length∧s.2=(i:Int)∧zz s.1.1∧Shp s.1.2 u) _ ⟨0,by omega,rfl,hq,hs⟩ ?_;rintro⟨⟨q,ms⟩,i'⟩ ⟨i,p1,p2,p3,p4⟩;simp only at p2 p3 p4;subst p2;have hk':k < ms.length:=by rw[p4.l]; exact hk
 have ht:=p4.t k hk;unfold F421_2_S;simp only;rw[qn hk' [],ob];by_cases c:i < (u.getD k []).length
 ·left
  have hi:i < (ms.getD k []).length:=by omega
  have hr:=p4.r k hk i c;have hb:=ha.2 _ (qR c []);rw[if_pos (by omega),qn hi [],ob];by_cases c2:0 < ((ms.getD k []).getD i []).length
  ·obtain⟨j,q1,e1,k1,k2,k3, -⟩:=zw p3 (((ms.getD k []).getD i []).length:Int)
   have k3':=k3 (by omega);obtain⟨j',rfl⟩:∃j':Nat,j=(j':Int):=⟨j.toNat,by omega⟩;obtain⟨v,q2,e2,i1, -⟩:=xg k1 (l:=[1,p - 1,p]) (by simp) (by simp);have hj:j' < ((ms.getD k []).getD i []).length:=by omega
   rw[if_pos (by omega),e1,ob,qo (by omega) (by omega),ob];simp only;rw[e2,ob];simp only;rw[zh hj,ob,zh hi,ob,zh hk',ob,qo (by omega) (by omega),ob];refine⟨_,rfl,⟨i+1,by omega,rfl,i1,?_⟩,by simp only; omega⟩;exact(put3_shp (show InT ms k i j' from ⟨hk',hi,hj⟩) v).trans p4
  ·rw[if_neg (by omega),qo (by omega) (by omega),ob]
   exact⟨_,rfl,⟨i+1,by omega,rfl,p3,p4⟩,by simp only; omega⟩
 ·right
  rw[if_neg (by omega)];exact⟨_,rfl,p3,p4⟩
theorem bad_loop1{p:Int}(hp:2≤p∧p≤7){u:T3s}(hu:SmallT u){q:ql}(hq:zz q):∃t,qV (F421_1_S p) ((q,u),0)=some t∧zz t.1∧Shp t.2 u:=by
 have hm:=hu.m;refine qW (S:=F421_1_S p) (fun s=>((u.length:Int) - s.2).toNat) (fun s=>∃i:Nat,i≤u.length∧s.2=(i:Int)∧zz s.1.1∧Shp s.1.2 u) _ ⟨0,by omega,rfl,hq,.refl _⟩ ?_;rintro⟨⟨q,ms⟩,i'⟩ ⟨i,p1,p2,p3,p4⟩;simp only at p2 p3 p4;subst p2;have hl:=p4.l;unfold F421_1_S;simp only;by_cases c:i < u.length
 ·left
  obtain⟨t,g1,g2,g3⟩:=bad_loop2 hp hu c p3 p4;rw[if_pos (by omega),g1,ob,qo (by omega) (by omega),ob];exact⟨_,rfl,⟨i+1,by omega,rfl,g2,g3⟩,by simp only; omega⟩
 ·right
  rw[if_neg (by omega)];exact⟨_,rfl,p3,p4⟩
structure LooseC (x:qh):Prop where
 s:jD x
 l:1≤x.Dims.length∧x.Dims.length≤7
theorem bad_ok{s:ql}(hs:zz s){x:qh}(h:DrawnC x):∃y s',F421 s x=some ⟨y,s'⟩∧zz s'∧LooseC y:=by
 have hp:=h.w.p.range;have hS:=wide_small h.w;have hdl:=h.w.dl;have hl:=h.l;obtain⟨k,s1,e1,k1,k2,k3, -⟩:=zw hs 40;unfold F421;rw[e1,ob];simp only;by_cases c0:k=0
 ·obtain⟨v,s2,e2,i1, -⟩:=xg k1 (l:=[0,4,11]) (by simp) (by simp)
  rw[if_pos c0,e2,ob];exact⟨_,_,rfl,i1,⟨hS.d,hS.m,hS.r⟩,hdl.1,by simp only; omega⟩
 rw[if_neg c0];by_cases c1:k=1
 ·obtain⟨i,s2,e2,i1,i2,i3, -⟩:=zw k1 (x.Dims.length:Int)
  have i3':=i3 (by omega);obtain⟨i',rfl⟩:∃i':Nat,i=(i':Int):=⟨i.toNat,by omega⟩;obtain⟨v,s3,e3,j1, -⟩:=xg i1 (l:=[(-1),9,1]) (by simp) (by simp);rw[if_pos c1,F94_eq hS.d,ob,e2,ob];simp only;rw[e3,ob];simp only;rw[zh (by omega),ob];exact⟨_,_,rfl,j1,⟨by simp only[vW]; exact hS.d,hS.m,hS.r⟩,by simp only[vW]; omega⟩
 rw[if_neg c1];by_cases c2:k=2
 ·rw[if_pos c2,F94_eq hS.d,ob,qH (by simp only[List.length_singleton]; omega) (by simp only[List.length_singleton]; omega),ob]
  exact⟨_,_,rfl,k1,⟨by simp only[wP,List.length_singleton]; omega,hS.m,hS.r⟩,by simp only[wP,List.length_singleton]; omega⟩
 rw[if_neg c2];by_cases c3:k=3
 ·obtain⟨t,g1,g2,g3⟩:=bad_loop1 hp (u:=x.Maps) ⟨hS.m,hS.r⟩ k1
  rw[if_pos c3,F55_eq hS,ob,g1,ob];have hT:=shp_small g3 ⟨hS.m,hS.r⟩;exact⟨_,_,rfl,g2,⟨hS.d,hT.m,hT.r⟩,hdl.1,by simp only; omega⟩
 rw[if_neg c3];exact⟨_,_,rfl,k1,hS,hdl.1,by omega⟩
structure CodeOK (code:List U8):Prop where
 l:code.length≤1099511627776
 b:∀b∈code,0≤b.val∧b.val≤255
noncomputable def zN(x:qd)(r:Int)(n:Nat)(q:Int):Int:=(((F184 x r (n:Int) q).getD []).length:Int)
structure NearL (x:qd) (r:Int) (n:Nat) (q:Int) (N:List (List Int)):Prop where
 e:F184 x r (n:Int) q=some N
 s:F280 x r (n:Int) q=some N
 red:Red x.Complex.Prime (dm x n) N
 sp:∀v,Sp x.Complex.Prime (dm x n) N v↔NearP x r n q v
 len:zN x r n q=N.length
theorem near_list{x:qd}(hs:qN x)(h:qI x){n:Nat}(hn:n < x.Levels.length){r q:Int}(hr: -100≤r∧r≤100)(hq: -100≤q∧q≤100):∃N,NearL x r n q N:=by
 obtain⟨N,n1,n2,n3⟩:=jK hs h hn hr hq;exact⟨N,n1,n2,n3,near_sp hs h hn hr hq n1,by unfold zN; rw[n1]; rfl⟩
theorem zN_top{x:qd}(hs:qN x)(h:qI x){r q:Int}(hr: -100≤r∧r≤100)(hq: -100≤q∧q≤100):zN x r x.Levels.length q=0:=by
 unfold zN; rw[near_top hs h hr hq]; rfl
theorem near_diff{x:qd}(h:qI x){n:Nat}(hn:n+1 < x.Levels.length){r s q t r':Int}(hrs:q - s=t)(hle:t≤q - r){v:List Int}:NearP x s (n+1) q v↔NearP x r (n+1) q v∧NearP x r' n t (df x n v):=by
 have hp0:0 < x.Complex.Prime:=by have:=h.vc.p.range; omega
 constructor
 ·rintro⟨v1,v2,v3⟩
  refine⟨⟨v1,v2,fun n0 j hj hlt=> v3 n0 j hj (by omega)⟩,df_near h hn r' v1 fun j hj hlt=>?_⟩;have:=v3 (by omega) j (by rw[vV]; exact hj) (by rw[vV]; omega);exact this
 ·rintro⟨⟨v1,v2,v3⟩,w1,w2,w3⟩
  refine⟨v1,v2,fun n0 j hj hlt=>?_⟩;rw[vV]at hj hlt;have a:=w2 j hj (by omega);have b:=df_at h hn v1 hj;rw[a]at b;exact b.symm
theorem low_map{x:qd}{n:Nat}{N:List (List Int)}:low x n N=N.map (df x n):=rfl
theorem bot_count{x:qd}(hs:qN x)(h:qI x){n:Nat}(hn:n < x.Levels.length){r q:Int}(hr: -30≤r∧r≤30)(hq: -30≤q∧q≤30):
  ∃B,F185 x r (n:Int) q=some B∧F279 x r (n:Int) q=some B∧Red x.Complex.Prime (dm x n) B∧(B.length:Int)=zN x (r - 1) n (q - 1)+zN x (r - 1) (n+1) (q+r - 1) - zN x r (n+1) (q+r - 1):=by
 have hp1:1 < x.Complex.Prime:=by have:=h.vc.p.range; omega
 obtain⟨B,A,b1,b2,b3,b4,b5,b6,b7⟩:=xE hs h hn (r:=r) (q:=q) (by omega) (by omega);refine⟨B,b1,b2,b3,?_⟩;obtain⟨A',a⟩:=near_list hs h hn (r:=r - 1) (q:=q - 1) (by omega) (by omega);have ea:A=A':=by have:=a.e; rw[b4]at this; exact wA this
 subst ea;by_cases c:n+1 < x.Levels.length
 ·obtain⟨D,d1,d2,d3⟩:=b6 c
  obtain⟨D',d⟩:=near_list hs h c (r:=r - 1) (q:=q+r - 1) (by omega) (by omega);have ed:D=D':=by have:=d.e; rw[d1]at this; exact wA this
  subst ed;obtain⟨K,k⟩:=near_list hs h c (r:=r) (q:=q+r - 1) (by omega) (by omega);rw[low_map]at d3;have key:=rel_count hp1 h.vc.p.inv (df_lin h c) a.red d.red k.red (fun v=> by
   rw[k.sp,d.sp,a.sp];exact near_diff h c (by omega) (by omega)) d3
  rw[a.len,d.len,k.len];omega
 ·have hl:n+1=x.Levels.length:=by omega
  have e:=zj.same hp1 (b7 c) (zj.self b5);rw[hl,zN_top hs h (by omega) (by omega),zN_top hs h (by omega) (by omega),a.len,e];omega
theorem base_count{x:qd}(hs:qN x)(h:qI x){n:Nat}(hn:n < x.Levels.length){r q:Int}(hr: -30≤r∧r≤30)(hq: -30≤q∧q≤30):
  ∃N B Z,F184 x r (n:Int) q=some N∧F185 x r (n:Int) q=some B∧F187 x r (n:Int) q=some Z∧Red x.Complex.Prime (dm x n) N∧Red x.Complex.Prime (dm x n) B∧Red x.Complex.Prime (dm x n) Z∧
   N.length=B.length+Z.length∧zj x.Complex.Prime (dm x n) (Z++B) N∧(∀v,Sp x.Complex.Prime (dm x n) N v→Sp x.Complex.Prime (dm x n) Z (rest x.Complex.Prime B v)):=by
 have hp:=h.vc.p;have hp1:1 < x.Complex.Prime:=by have:=hp.range; omega
 have hp0:0 < x.Complex.Prime:=by omega
 obtain⟨N,a⟩:=near_list hs h hn (r:=r) (q:=q) (by omega) (by omega);obtain⟨B,b1,b2,b3, -⟩:=bot_count hs h hn hr hq;obtain⟨Z,z1, -,z3⟩:=basis_eq hs h hn (by omega) (by omega) a.e b1 a.red b3;have hBN:=bot_near hs h hn (by omega) (by omega) a.e a.red b1;have hBN':∀b∈B,Sp x.Complex.Prime (dm x n) N b:=fun b hb=> hBN b (.mem hp0 b3.ok hb);have L:=rest_lin hp0 b3.ok fun t ht=>(b3.one t ht).1;have hZB:Rows x.Complex.Prime (dm x n) (Z++B):=fun v hv=>(wK.1 hv).elim (z3.red.ok v) (b3.ok v);have hBs:∀b∈B,Sp x.Complex.Prime (dm x n) (Z++B) b:=fun b hb=> .mem hp0 hZB (vF _ hb);have hrest:∀v,Sp x.Complex.Prime (dm x n) N v→Sp x.Complex.Prime (dm x n) Z (rest x.Complex.Prime B v):=fun v hv=>(z3.sp _).2 (L.sp hp0 a.red.ok hv);refine⟨N,B,Z,a.e,b1,z1,a.red,b3,z3.red,hole_count hp b3 a.red hBN' z3,⟨a.red,fun v=>⟨fun hv=>?_,fun hv=> hv.into hp0 a.red.ok fun u hu=>?_⟩⟩,hrest⟩
 ·have hvo:=hv.ok hp0 a.red.ok
  exact(jb hp0 hZB b3.ok hBs hvo).1 ((hrest v hv).mono fun u hu=> vJ _ hu)
 ·rcases wK.1 hu with q1|q1
  ·have hs1:=(z3.sp u).1 (.mem hp0 z3.red.ok q1)
   refine hs1.into hp0 a.red.ok fun t ht=>?_;obtain⟨v,hv,rfl⟩:=wL.1 ht;exact(jb hp0 a.red.ok b3.ok hBN' (a.red.ok v hv)).2 (.mem hp0 a.red.ok hv)
  ·exact hBN' u q1
theorem diff_twice{x:qd}(hs:qN x)(h:qI x){m:Nat}(hm:m+2 < x.Levels.length){r q:Int}(hr:0≤r∧r≤8)(hq:0≤q∧q≤5)(hrq:r≤q)
  {T B' T2 B2:List (List Int)} (hT:F187 x r ((m+1:Nat):Int) (q - r)=some T) (hB:F185 x r ((m+1:Nat):Int) (q - r)=some B') (hT2:F187 x r (m:Int) (q - r - r)=some T2) (hB2:F185 x r (m:Int) (q - r - r)=some B2)
  {z:List Int} (hz:∀N,F184 x r ((m+2:Nat):Int) q=some N→Sp x.Complex.Prime (dm x (m+2)) N z) {k:Nat} (hk:k < T2.length):
  Cg x.Complex.Prime (dot (nth (co x (m+1) T B' z)) (T.map (co x m T2 B2)) T.length k) 0:=by
 have hp:=h.vc.p;have hp1:1 < x.Complex.Prime:=by have:=hp.range; omega
 have hp0:0 < x.Complex.Prime:=by omega
 obtain⟨N1,C1,Z1,a1,a2,a3,a4,a5,a6, -, -,a9⟩:=base_count hs h (n:=m+1) (by omega) (r:=r) (q:=q - r) (by omega) (by omega);have e1:T=Z1:=by rw[hT]at a3; exact wA a3
 have e2:B'=C1:=by rw[hB]at a2; exact wA a2
 subst e1; subst e2;obtain⟨N2,C2,Z2,c1,c2,c3,c4,c5,c6, -, -, -⟩:=base_count hs h (n:=m) (by omega) (r:=r) (q:=q - r - r) (by omega) (by omega);have e3:T2=Z2:=by rw[hT2]at c3; exact wA c3
 have e4:B2=C2:=by rw[hB2]at c2; exact wA c2
 subst e3; subst e4;obtain⟨N,a⟩:=near_list hs h hm (r:=r) (q:=q) (by omega) (by omega);have hzN:=(a.sp z).1 (hz N a.e);have hzo:=hzN.1;have hm1:m+1 < x.Levels.length:=by omega
 have hdz:=df_ok h hm hzo
 -- the differential lies in the approximate cycles
 have hdN:Sp x.Complex.Prime (dm x (m+1)) N1 (df x (m+1) z):=(near_sp hs h hm1 (by omega) (by omega) a1 _).2 (df_near h hm r hzo fun j hj hlt=> hzN.2.2 (by omega) j hj (by show q - r < lv x (m+2 - 1) j; exact hlt));have hw:=a9 _ hdN;have hwo:=hw.ok hp0 a6.ok;have hφ:Lin x.Complex.Prime (dm x (m+1)) T2.length (co x m T2 B2):=(df_lin h hm1).comp ((rest_lin hp0 c5.ok fun t ht=>(c5.one t ht).1).comp (leads_lin hp0 fun t ht=>(c6.one t ht).1));have key:=lin_dot hp0 hφ a6.ok (f:=nth (co x (m+1) T B' z)) hk T.length (wD _) _ hwo fun j hj=> sp_dot hp0 a6 hw hj;refine key.symm.trans ?_
 -- what the rest qO away lies in the bottom
 have hzero:∀u,qJ x.Complex.Prime (dm x (m+1)) u→Sp x.Complex.Prime (dm x m) B2 (df x m u)→co x m T2 B2 u=zv T2.length:=fun u hu hb=> by
  unfold co;rw[(zY hp0 c5 (df_ok h hm1 hu)).2 hb];exact(leads_lin hp0 fun t ht=>(c6.one t ht).1).zero hp0
 have hdB:=df_bot hs h hm1 hr (q:=q - r) (by omega) hB hB2;have hbot:Sp x.Complex.Prime (dm x m) B2 (df x m (rest x.Complex.Prime B' (df x (m+1) z))):=by
  have hrows:Rows x.Complex.Prime (dm x (m+1)) B':=a5.ok
  -- in the space of the bottom and the vector itself
  have hR:Rows x.Complex.Prime (dm x (m+1)) (B'++[df x (m+1) z]):=fun v hv=> by
   rcases wK.1 hv with q1|q1
   ·exact hrows v q1
   ·rw[List.mem_singleton.1 q1]; exact hdz
  have hin:Sp x.Complex.Prime (dm x (m+1)) (B'++[df x (m+1) z]) (rest x.Complex.Prime B' (df x (m+1) z)):=(jb hp0 hR hrows (fun b hb=> .mem hp0 hR (vJ _ hb)) hdz).2 (.mem hp0 hR (vF _ (List.mem_singleton.2 rfl)));have himg:=(df_lin h hm1).sp hp0 hR hin;refine himg.into hp0 c5.ok fun t ht=>?_;obtain⟨u,hu,rfl⟩:=wL.1 ht;rcases wK.1 hu with q1|q1
  ·exact hdB u (.mem hp0 a5.ok q1)
  ·rw[List.mem_singleton.1 q1,df_df h hm hzo]; exact .zero
 rw[hzero _ hwo hbot,zm];exact .refl _ _
structure LvOK (x:qh) (n:Nat) (o:List (List Int)):Prop where
 l:o.length=n
 r:∀m,m < n→(o.getD m []).length=dc x m∧∀y∈o.getD m [],0≤y∧y≤5
theorem lev_loop{x:qh}(h:WideC x){n i:Nat}(hn:n < x.Dims.length)(hi:i < dc x n){o:List (List Int)}(ho:LvOK x n o){rows:List (List Int)}(hr:n≠0→rows.length=dc x n∧∀r∈rows,r.length=dc x (n - 1))(x1:T2 Int ql)(a:Int)(b:List Int)(c:List (List (List Int)))(u:List U8)(v w:Int)(o5:List Int):
  ∃t,qV (F453_3_S x x1 o a b c (n:Int) rows u v w o5 (i:Int)) (0,0)=some t∧0≤t∧t≤5:=by
 have hdl:=h.dl;refine qW (S:=F453_3_S x x1 o a b c (n:Int) rows u v w o5 (i:Int)) (fun s=>(100 - s.2).toNat) (fun s=>∃k:Nat,s.2=(k:Int)∧k≤dc x (n - 1)∧0≤s.1∧s.1≤5) _ ⟨0,rfl,vL _,by simp,by simp⟩ ?_;rintro⟨m,k'⟩ ⟨k,p1,p2,p3,p4⟩;simp only at p1 p3 p4;subst p1;have hd:=dc_lew h (n - 1);unfold F453_3_S;simp only;by_cases c0:n=0
 ·right
  rw[if_neg (by omega)];exact⟨_,rfl,p3,p4⟩
 obtain⟨r1,r2⟩:=hr c0;have hn1:n - 1 < x.Dims.length:=by omega
 rw[if_pos (by omega),qo (by omega) (by omega),ob,show(n:Int) - 1=((n - 1:Nat):Int) by omega,qn hn1 0,ob,dc_atw h hn1];by_cases c1:k < dc x (n - 1)
 ·left
  have hrl:(rows.getD i []).length=dc x (n - 1):=r2 _ (qR (by omega) []);obtain⟨o1,o2⟩:=ho.r (n - 1) (by omega);have hol:=ho.l;rw[if_pos (by omega),qn (show i < rows.length by omega) [],ob,qn (show k < (rows.getD i []).length by omega) 0,ob];by_cases c2:(rows.getD i []).getD k 0=0
  ·rw[if_pos c2,qo (by omega) (by omega),ob]
   exact⟨_,rfl,⟨k+1,rfl,by omega,p3,p4⟩,by simp only; omega⟩
  ·have hy:=o2 _ (qR (show k < (o.getD (n - 1) []).length by omega) 0)
   rw[if_neg c2,qn (show n - 1 < o.length by omega) [],ob,qn (show k < (o.getD (n - 1) []).length by omega) 0,ob,qo (by omega) (by omega),ob];refine⟨_,rfl,⟨k+1,rfl,by omega,?_,?_⟩,by simp only; omega⟩<;>(simp only; split <;> omega)
 ·right
  rw[if_neg (by omega)];exact⟨_,rfl,p3,p4⟩
theorem row_loop{x:qh}(h:WideC x){n:Nat}(hn:n < x.Dims.length){o:List (List Int)}(ho:LvOK x n o){rows:List (List Int)}(hr:n≠0→rows.length=dc x n∧∀r∈rows,r.length=dc x (n - 1)){x1:T2 Int ql}(h1:0≤x1.a∧x1.a≤5)(a:Int)(b:List Int)(c:List (List (List Int))){s:ql}(hs:zz s):
  ∃ (q:ql) (l:List Int),qV (xK x x1 o a b c (n:Int) rows) (s.code,s.at_,s.hash,[],0)=some (q.code,q.at_,q.hash,l)∧zz q∧l.length=dc x n∧∀y∈l,0≤y∧y≤5:=by
 have hd:=dc_lew h n;have L:∃t,qV (xK x x1 o a b c (n:Int) rows) (s.code,s.at_,s.hash,[],0)=some t∧(∃ (q:ql) (l:List Int),t=(q.code,q.at_,q.hash,l)∧zz q∧l.length=dc x n∧∀y∈l,0≤y∧y≤5):=by
  refine qW (S:=xK x x1 o a b c (n:Int) rows) (fun s=>(100 - s.2.2.2.2).toNat) (fun s=>∃ (q:ql) (l:List Int),s=(q.code,q.at_,q.hash,l,(l.length:Int))∧zz q∧l.length≤dc x n∧∀y∈l,0≤y∧y≤5) _ ⟨s,[],rfl,hs,vL _,fun y hy=> nomatch hy⟩ ?_;rintro _ ⟨q,l,rfl,k1,k2,k3⟩;unfold xK;simp only;rw[qn hn 0,ob,dc_atw h hn];by_cases c1:l.length < dc x n
  ·left
   obtain⟨t,g1,g2,g3⟩:=lev_loop h hn c1 ho hr x1 a b c q.code q.at_ q.hash l;obtain⟨v,q2,e1,i1,i2,i3, -⟩:=zw k1 (x1.a+1);have i3':=i3 (by omega);have e1':F416 ⟨q.code,q.at_,q.hash⟩ (x1.a+1)=some ⟨v,q2⟩:=e1;rw[if_pos (by omega),g1,ob,qo (by omega) (by omega),ob,e1',ob];dsimp only;rw[qo (by omega) (by omega),ob,qH (by simp; omega) (by simp; omega),ob,qo (by omega) (by omega),ob];refine⟨_,rfl,⟨q2,l++[if 5 < t+v then 5 else t+v],by simp,i1,by simp; omega,fun y hy=>?_⟩,by simp only; omega⟩;rcases wK.1 hy with hy|hy
   ·exact k3 y hy
   ·rw[List.mem_singleton.1 hy]; split <;> omega
  ·right
   rw[if_neg (by omega)];exact⟨_,rfl,q,l,rfl,k1,by omega,k3⟩
 obtain⟨_,g1,q,l,rfl,k1,k2,k3⟩:=L;exact⟨q,l,g1,k1,k2,k3⟩
theorem LvOK.snoc{x:qh}{n:Nat}{o:List (List Int)}(h:LvOK x n o){l:List Int}(h1:l.length=dc x n)(h2:∀y∈l,0≤y∧y≤5):LvOK x (n+1) (o++[l]):=by
 have hl:=h.l;refine⟨by simp[hl],fun m hm=>?_⟩;by_cases c:m < n
 ·rw[jL (by omega)]; exact h.r m c
 ·have e:m=o.length:=by omega
  subst e;rw[getD_app_one,hl]; exact⟨h1,h2⟩
theorem levels_ok{s:ql}(hs:zz s){x:qh}(h:DrawnC x):∃lv s',F453 s x=some ⟨⟨x,lv⟩,s'⟩∧zz s'∧LvOK x x.Dims.length lv:=by
 have hw:=h.w;have hl:=h.l;have hdl:=hw.dl;have hml:=hw.ml;have hS:=wide_small hw;obtain⟨v,s1,e1,k1,k2⟩:=xg hs (l:=[0,1,2,2,3,5]) (by simp) (by simp);have hv:0≤v∧v≤5:=by
  simp only[wY,yG,or_false]at k2;omega
 unfold F453;rw[e1,ob];dsimp only;obtain⟨t,g1,g2⟩:=qx (B:=F453_1_B x ⟨v,s1⟩) (D:=F453_1_D x ⟨v,s1⟩) x.Dims.length rfl (by omega) (fun n t=>∃ (q:ql) (o:List (List Int)),t=(q.code,q.at_,q.hash,o,x.Prime,x.Dims,x.Maps)∧zz q∧LvOK x n o) (fun t=>∃ (q:ql) (o:List (List Int)),t=(q.code,q.at_,q.hash,o,x.Prime,x.Dims,x.Maps)∧zz q∧LvOK x x.Dims.length o) (s:=(s1.code,s1.at_,s1.hash,[],x.Prime,x.Dims,x.Maps)) ⟨s1,[],rfl,k1,rfl,fun m hm=> absurd hm (yN _)⟩ (by
  rintro n _ hn ⟨q,o,rfl,h1,h2⟩;left;have hm:∃rows,F76 x (n:Int)=some rows∧(n≠0→rows.length=dc x n∧∀r∈rows,r.length=dc x (n - 1)):=by
   by_cases c:n=0
   ·subst c
    have h8:=dc_lew hw 0;exact⟨_,F76_0 hS.d (by omega) (dc_atw hw (by omega)) (by omega),fun e=> absurd rfl e⟩
   ·obtain⟨m,rfl⟩:∃m,n=m+1:=⟨n - 1,by omega⟩
    obtain⟨r1,r2⟩:=wide_rows hw hn;exact⟨_,F76_eq hS.d hn (by omega),fun _=>⟨r1,fun r hr=>(r2 r hr).len⟩⟩
  obtain⟨rows,a1,a2⟩:=hm;obtain⟨q2,l,b1,b2,b3,b4⟩:=row_loop hw hn h2 a2 (x1:=⟨v,s1⟩) hv x.Prime x.Dims x.Maps h1;have hol:=h2.l;unfold F453_1_B;dsimp only;rw[a1,ob,b1,ob];dsimp only;rw[qH (by simp only[List.length_singleton]; omega) (by simp only[List.length_singleton]; omega),ob];exact⟨_,rfl,q2,_,rfl,b2,h2.snoc b3 b4⟩) (by
  rintro _ ⟨q,o,rfl,h1,h2⟩;exact⟨_,rfl,q,o,rfl,h1,h2⟩)
 obtain⟨q,o,rfl,h1,h2⟩:=g2;rw[g1,ob];exact⟨o,q,rfl,h1,h2⟩
theorem draw2_ok{s:ql}(hs:zz s):∃x lv s',F452 s=some ⟨⟨x,lv⟩,s'⟩∧zz s'∧DrawnC x∧LvOK x x.Dims.length lv:=by
 obtain⟨x,s1,e1,k1,k2⟩:=draw_ok hs;obtain⟨lv,s2,e2,k3,k4⟩:=levels_ok k1 k2;unfold F452;rw[e1,ob];dsimp only;rw[e2,ob];exact⟨x,lv,s2,rfl,k3,k2,k4⟩
structure LooseF (x:qd):Prop where
 c:LooseC x.Complex
 l:x.Levels.length≤6
 r:∀q∈x.Levels,q.length≤200
theorem LooseF.small{x:qd}(h:LooseF x):qN x:=⟨h.c.s,by have:=h.l; omega,fun q hq=> by have:=h.r q hq; omega⟩
theorem spoil2_ok{s:ql}(hs:zz s):∃x s',F450 s=some ⟨x,s'⟩∧zz s'∧LooseF x:=by
 obtain⟨x,lv,s1,e1,k1,k2,k3⟩:=draw2_ok hs;have hl:=k2.l;have hdl:=k2.w.dl;have hll:=k3.l;have L:LooseC x:=⟨wide_small k2.w,hdl.1,by omega⟩;have hrow:∀q∈lv,q.length≤100:=fun q hq=> by
  obtain⟨m,hm,rfl⟩:=wN hq;have:=(k3.r m (by omega)).1;rw[show lv.getD m []=lv[m] by simp[hm]]at this;have:=dc_lew k2.w m;omega
 unfold F450;rw[e1,ob];dsimp only;have cp:forR 0 (lv.length:Int) (F450_1_B lv) F450_1_D []=some lv:=by
  obtain⟨t,g1,g2⟩:=qx (B:=F450_1_B lv) (D:=F450_1_D) lv.length rfl (by omega) (fun n t=> t=lv.take n) (fun t=> t=lv) (s:=[]) (by simp) (by
   rintro n _ hn rfl;left;have hq:=hrow _ (qR hn []);unfold F450_1_B;rw[qn hn [],ob,F94_eq (by omega),ob,qH (by simp only[List.length_singleton,yH]; omega) (by simp only[List.length_singleton,yH]; omega),ob];exact⟨_,rfl,(take_one [] hn).symm▸rfl⟩) (by
   rintro _ rfl;exact⟨_,rfl,vH⟩)
  rw[g1,g2]
 rw[cp,ob];obtain⟨n,s2,e2,i1,i2,i3, -⟩:=zw k1 (lv.length:Int);have i3':=i3 (by omega);obtain⟨n',rfl⟩:∃n':Nat,n=(n':Int):=⟨n.toNat,by omega⟩;obtain⟨k,s3,e3,j1,j2,j3, -⟩:=zw i1 40;have hn:n' < lv.length:=by omega
 have hq:=hrow _ (qR hn []);have set_ok:∀r:List Int,r.length≤200→∀q∈lv.set n' r,q.length≤200:=fun r hr q hq=> by
  rcases List.mem_or_eq_of_mem_set hq with z|z
  ·have:=hrow q z; omega
  ·rw[z]; exact hr
 have hrow':∀q∈lv,q.length≤200:=fun q hq=> by have:=hrow q hq; omega
 rw[e2,ob];dsimp only;rw[e3,ob];dsimp only;by_cases c0:k=0
 ·rw[if_pos c0,qn hn [],ob,qH (by simp only[List.length_singleton]; omega) (by simp only[List.length_singleton]; omega),ob,zh hn,ob]
  exact⟨_,_,rfl,j1,L,by simp only[vW]; omega,set_ok _ (by simp only[wP,List.length_singleton]; omega)⟩
 rw[if_neg c0];by_cases c1:k=1
 ·rw[if_pos c1,qn hn [],ob]
  by_cases c2:0 < (lv.getD n' []).length
  ·obtain⟨j,s4,e4,m1,m2,m3, -⟩:=zw j1 ((lv.getD n' []).length:Int)
   have m3':=m3 (by omega);obtain⟨j',rfl⟩:∃j':Nat,j=(j':Int):=⟨j.toNat,by omega⟩;obtain⟨v,s5,e5,m4, -⟩:=xg m1 (l:=[(-1),6,0]) (by simp) (by simp);rw[if_pos (by omega),e4,ob];dsimp only;rw[e5,ob];dsimp only;rw[zh (by omega),ob,zh hn,ob];exact⟨_,_,rfl,m4,L,by simp only[vW]; omega,set_ok _ (by simp only[vW]; omega)⟩
  ·rw[if_neg (by omega)]
   exact⟨_,_,rfl,j1,L,by simp only; omega,hrow'⟩
 rw[if_neg c1];by_cases c2:k=2
 ·rw[if_pos c2,if_pos (by omega)]
  exact⟨_,_,rfl,j1,L,by simp only[yQ]; omega,fun q hq=> hrow' q (yA hq)⟩
 rw[if_neg c2];by_cases c3:k=3
 ·obtain⟨y,s4,e4,m1,m2⟩:=bad_ok j1 k2
  rw[if_pos c3,e4,ob];exact⟨_,_,rfl,m1,m2,by simp only; omega,hrow'⟩
 rw[if_neg c3];exact⟨_,_,rfl,j1,L,by simp only; omega,hrow'⟩
theorem with_ok{code:List U8}(h:CodeOK code):∃x r n q,F447 code=some ⟨x,r,n,q⟩∧LooseF x∧(-4611686018427387904≤r∧r≤4611686018427387904)∧(0≤n∧n≤100)∧(0≤q∧q≤100):=by
 obtain⟨s,e1,k1⟩:=from_ok h.l h.b;obtain⟨x,s1,e2,k2,k3⟩:=spoil2_ok k1;obtain⟨v,s2,e3,k4,k5⟩:=near_ok k2 (m:=8) (by omega) (by omega);obtain⟨r,s3,e4,k6,k7⟩:=xg k4 (l:=[0,1,1,2,2,3,v]) (by simp) (by simp);obtain⟨a,s4,e5,k8,k9,ka, -⟩:=zw k6 24;have ka':=ka (by omega);have hl:=k3.l;have qa:quoI a 23=some (a/23):=by
  unfold quoI;rw[if_neg (by omega),Int.tdiv_eq_ediv_of_nonneg (by omega),qo (by omega) (by omega)]
 obtain⟨n,s5,e6,kb,kc,kd,ke⟩:=zw k8 ((x.Levels.length:Int)+a/23);obtain⟨b,s6,e7,kf,kg,kh, -⟩:=zw kb 24;have kh':=kh (by omega);have qb:quoI b 23=some (b/23):=by
  unfold quoI;rw[if_neg (by omega),Int.tdiv_eq_ediv_of_nonneg (by omega),qo (by omega) (by omega)]
 obtain⟨q,s7,e8,ki,kj,kk,kl⟩:=zw kf (6+b/23);have kk':=kk (by omega);have hn:n≤100:=by
  by_cases c:1≤(x.Levels.length:Int)+a/23
  ·have:=kd c; omega
  ·have:=ke (by omega); omega
 unfold F447;rw[e1,ob,e2,ob];dsimp only;rw[e3,ob];dsimp only;rw[e4,ob];dsimp only;rw[e5,ob];dsimp only;rw[qa,ob,qo (by omega) (by omega),ob,e6,ob];dsimp only;rw[e7,ob];dsimp only;rw[qb,ob,qo (by omega) (by omega),ob,e8,ob];refine⟨x,r,n,q,rfl,k3,?_,⟨kc,hn⟩,kj,by omega⟩;simp only[wY,yG,or_false]at k7;omega
theorem page_zero{x:qd}(hs:qN x)(h:qI x){n:Nat}(hn:n < x.Levels.length){r q:Int}(hr:0≤r∧r≤8)(hq:0≤q∧q≤5):F166 x r (n:Int) q=some 0∧F247 x r (n:Int) q=some 0:=by
 obtain⟨b,d1,d2,d3⟩:=(F38_tells hs).same (F41_tells hs);have hsl:=hs.l;have hsd:=hs.c.d;have hll:=h.ll;have hb:b=true:=d3.2 h;subst hb;unfold F166 F247;rw[d1,d2,ob,ob,if_pos rfl,if_pos rfl,jQ,F54_eq,ob,ob,if_pos (by simpa using hr),if_pos (by simpa using hr),F86_eq hsd,ob,qo (by omega) (by omega),ob,jQ,F54_eq,ob,ob,hll,
  if_pos (by simp; omega),if_pos (by simp; omega),jQ,F54_eq,ob,if_pos (by simpa using hq)]
 exact⟨rfl,rfl⟩
theorem F160_same{l:List (List Int)}(h:l.length≤1000)(h2:∀r∈l,r.length≤1000):F160 l l=some true:=by
 unfold F160;rw[if_pos rfl,eq_loop' (by omega) (fun i hi=> by
  unfold F160_1_B;rw[qn hi [],ob,ob,F156_same (h2 _ (qR hi [])),ob,if_pos rfl]) fun i=> rfl,ob]
def LongU(a:U8):Prop:=0≤a.val∧a.val≤255
theorem getI_0{α:Type}{l:List α}(h:0 < l.length)(d:α):getI l 0=some (l.getD 0 d):=qn (i:=0) h d
theorem vec_row{p:Int}{w:Nat}{v:List Int}(h:qJ p w v):RowOK p (w:Int) v:=⟨by rw[h.len],fun y hy=> by
 obtain⟨j,hj,rfl⟩:=wN hy;have:=h.rng j (by have:=h.len; omega)
 rwa[qU hj]at this⟩
theorem space_ok{p:Int}(hp:IsP p){w:Nat}(hw:w≤40){ls:List (List (List Int))}(hl:ls.length≤1000)(h:∀l∈ls,l.length≤40∧Rows p w l):F448 p (w:Int) ls=some 0:=by
 have hr:=hp.range;obtain⟨b,e1,e2⟩:=F67_tells p;have hb:b=true:=e2.2 hp;have e3:=F208_eq (l:=ls) (f:=fun x=> F451 x p (w:Int)) (fun l=> !(l.all (rowB p (w:Int)))) (by omega) (fun l hl'=> by
  obtain⟨h1,h2⟩:=h l hl';unfold F451;rw[if_neg (by omega),F90_eq hr (by omega) (fun r hr'=> by rw[(h2 r hr').len]; omega),ob])
 have e4:(ls.any fun l=> !(l.all (rowB p (w:Int))))=false:=by
  rw[List.any_eq_false];intro l hl';have:l.all (rowB p (w:Int))=true:=wS.2 fun r hr'=> rowB_iff.2 (vec_row ((h l hl').2 r hr'));simp[this]
 unfold F448;rw[e1,hb,ob,if_pos rfl,jQ,ob,if_pos (by simp; omega),e3,e4,ob];rfl
theorem pd_draw{code:List U8}(h:CodeOK code):∃x r n q,F426 code=some ⟨x,r,n,q⟩∧LooseF x∧(-4611686018427387904≤r∧r≤4611686018427387904)∧(0≤n∧n≤100)∧(0≤q∧q≤100):=by
 obtain⟨x,r,n,q,e,h1⟩:=with_ok h;unfold F426;rw[e,ob];exact⟨x,r,n,q,rfl,h1⟩
theorem pb_draw{code:List U8}(h:CodeOK code):∃x r n q,F427 code=some ⟨x,r,n,q⟩∧LooseF x∧(-4611686018427387904≤r∧r≤4611686018427387904)∧(0≤n∧n≤100)∧(0≤q∧q≤100):=by
 obtain⟨x,r,n,q,e,h1⟩:=with_ok h;unfold F427;rw[e,ob];exact⟨x,r,n,q,rfl,h1⟩
theorem diff_table{x:qd}(hs:qN x)(h:qI x){m:Nat}(hm:m+1 < x.Levels.length){r q:Int}(hr:0≤r∧r≤8)(hq:0≤q∧q≤5)(hrq:r≤q):
  ∃Z T B',F187 x r ((m+1:Nat):Int) q=some Z∧F187 x r (m:Int) (q - r)=some T∧F185 x r (m:Int) (q - r)=some B'∧Red x.Complex.Prime (dm x (m+1)) Z∧Red x.Complex.Prime (dm x m) T∧Red x.Complex.Prime (dm x m) B'∧
   F170 x r ((m+1:Nat):Int) q=some (Z.map (co x m T B'))∧F324 x r ((m+1:Nat):Int) q=some ⟨Z.map (co x m T B'),0⟩∧Rows x.Complex.Prime T.length (Z.map (co x m T B')):=by
 have hp0:0 < x.Complex.Prime:=by have:=h.vc.p.range; omega
 obtain⟨Z,T,B',z1,z2,t1,t2,b1,b2,f1⟩:=pd_table hs h hm hr hq hrq;obtain⟨Z',y1,y2, -⟩:=js hs h hm (r:=r) (q:=q) (by omega) (by omega);obtain⟨T',u1,u2, -⟩:=js hs h (n:=m) (by omega) (r:=r) (q:=q - r) (by omega) (by omega);obtain⟨C,c1,c2, -⟩:=xD hs h (n:=m) (by omega) (r:=r) (q:=q - r) (by omega) (by omega);rw[z1]at y2; cases y2;rw[t1]at u2; cases u2;rw[b1]at c2; cases c2;have hψ:Lin x.Complex.Prime (dm x m) T.length fun u=> zC T (rest x.Complex.Prime B' u):=(rest_lin hp0 b2.ok fun t ht=>(b2.one t ht).1).comp (leads_lin hp0 fun t ht=>(t2.one t ht).1);refine⟨Z,T,B',y1,u1,c1,z2,t2,b2,f1,?_,fun v hv=>?_⟩
 ·unfold F324
  rw[(page_zero hs h hm hr hq).1,ob,if_pos rfl,f1,ob]
 ·obtain⟨z,hz,rfl⟩:=wL.1 hv
  exact hψ.ok _ (df_ok h hm (z2.ok z hz))
theorem diff_void{x:qd}(hs:qN x)(h:qI x){n:Nat}(hn:n < x.Levels.length){r q:Int}(hr:0≤r∧r≤8)(hq:0≤q∧q≤5)(h0:n=0∨q < r):∃Z:List (List Int),F324 x r (n:Int) q=some ⟨Z.map fun _=>([]:List Int),0⟩:=by
 obtain⟨Z, -, -,z3⟩:=pd_none hs h hn hr hq h0;refine⟨Z,?_⟩;unfold F324;rw[(page_zero hs h hn hr hq).1,ob,if_pos rfl,z3,ob]
theorem tmod_zero{p a:Int}(h:Cg p a 0):Int.tmod a p=0:=by
 obtain⟨m,rfl⟩:=h;rw[Int.zero_add];exact Int.mul_tmod_right _ _
theorem mul_rng{a b p:Int}(hp:p≤7)(ha:0≤a∧a < p)(hb:0≤b∧b < p):0≤a*b∧a*b≤36:=by
 have h1:0≤a*b:=Int.mul_nonneg ha.1 hb.1;have h2:a*b≤6*b:=Int.mul_le_mul_of_nonneg_right (by omega) hb.1;exact⟨h1,by omega⟩
theorem twice_part{x:qd}(hx:LooseF x)(hv:qI x){m:Nat}(hm:m+1 < x.Levels.length){r q:Int}(hr:0≤r∧r≤8)(hq:0≤q∧q≤5)(hrq:r≤q){M:List (List Int)}(hM:F324 x r ((m+1:Nat):Int) q=some ⟨M,0⟩):
  F454_93 x.Complex.Prime x.Complex.Dims x.Complex.Maps x.Levels r ((m+1:Nat):Int) q M=some true:=by
 have hs:=hx.small;have hxl:=hx.l;have hp:=hv.vc.p;have hpr:=hp.range;have hp0:0 < x.Complex.Prime:=by omega
 have hd1:=zo hv hm;have hd0:=zo hv (n:=m) (by omega);obtain⟨Z,T,B',z1,t1,b1,zR,tR,bR, -,f2,MR⟩:=diff_table hs hv hm hr hq hrq;rw[hM]at f2;injection f2 with f2; injection f2 with f2 _
 have hZl:=qK zR;have hTl:=qK tR;unfold F454_93;rw[qo (by omega) (by omega),ob,qo (by omega) (by omega),ob,show((m+1:Nat):Int) - 1=(m:Int) by omega]
 -- the next table
 have W:∃W:List (List Int),F324 x r (m:Int) (q - r)=some ⟨W,0⟩∧∀n:Nat,n < M.length→qV (jF x.Complex.Prime x.Complex.Dims x.Complex.Maps x.Levels M ⟨W,0⟩ (n:Int)) 0=some (.inl ()):=by
  have short:∀ {W:List (List Int)},(0 < W.length→(W.getD 0 []).length=0)→∀n:Nat,n < M.length→qV (jF x.Complex.Prime x.Complex.Dims x.Complex.Maps x.Levels M ⟨W,0⟩ (n:Int)) 0=some (.inl ()):=fun {W} h0 n hn=> by
   obtain⟨t,g1,g2⟩:=qW (S:=jF x.Complex.Prime x.Complex.Dims x.Complex.Maps x.Levels M ⟨W,0⟩ (n:Int)) (fun _=> 0) (fun s=> s=0) (fun t=> t= .inl ()) (s:=0) rfl (by
    rintro _ rfl;right;unfold jF;dsimp only;by_cases cw:0 < W.length
    ·rw[if_pos (by omega),getI_0 cw [],ob,h0 cw,if_neg (by simp)]
     exact⟨_,rfl,rfl⟩
    ·rw[if_neg (by omega)]
     exact⟨_,rfl,rfl⟩)
   rw[g1,g2]
  by_cases h0:m=0∨q - r < r
  ·obtain⟨Z0,e⟩:=diff_void hs hv (n:=m) (by omega) hr (q:=q - r) (by omega) h0
   refine⟨_,e,short fun hl=>?_⟩;have:=qR (l:=Z0.map fun _=>([]:List Int)) hl [];obtain⟨_, -,e3⟩:=wL.1 this;rw[←e3]; rfl
  ·obtain⟨k,rfl⟩:∃k,m=k+1:=⟨m - 1,by omega⟩
   obtain⟨Z2,T2,B2,y1,u1,c1,yR,uR,cR, -,g2,WR⟩:=diff_table hs hv (m:=k) (by omega) hr (q:=q - r) (by omega) (by omega);rw[t1]at y1; cases y1;have hd2:=zo hv (n:=k) (by omega);have hT2l:=qK uR;refine⟨_,g2,fun n hn=>?_⟩;have hWl:(T.map (co x k T2 B2)).length=T.length:=by simp
   have wrow:∀j,j < T.length→qJ x.Complex.Prime T2.length ((T.map (co x k T2 B2)).getD j []):=fun j hj=> WR _ (qR (by omega) []);have mrow:qJ x.Complex.Prime T.length (M.getD n []):=MR _ (by rw[←f2]; exact qR hn []);have hMn:n < Z.length:=by rw[f2]at hn; simpa using hn
   have eM:M.getD n []=co x (k+1) T B' Z[n]:=by rw[f2]; simp[hMn]
   obtain⟨N,Bz,Zz,a1,a2,a3,a4,a5,a6, -,a8, -⟩:=base_count hs hv hm (r:=r) (q:=q) (by omega) (by omega);rw[z1]at a3; cases a3;have hZB:Rows x.Complex.Prime (dm x (k+1+1)) (Z++Bz):=fun v hv'=>(wK.1 hv').elim (zR.ok v) (a5.ok v);have hz:∀N',F184 x r ((k+2:Nat):Int) q=some N'→Sp x.Complex.Prime (dm x (k+2)) N' Z[n]:=fun N' hN'=> by
    have e:N=N':=by
     have e1:F184 x r ((k+2:Nat):Int) q=some N:=a1;rw[e1]at hN'; exact wA hN'
    rw[←e];exact(a8.sp _).2 (.mem hp0 hZB (vJ _ (wB hMn)))
   have key:∀c:Nat,c < T2.length→Cg x.Complex.Prime (dot (nth (M.getD n [])) (T.map (co x k T2 B2)) T.length c) 0:=fun c hc=> by
    rw[eM];exact diff_twice hs hv (m:=k) (by omega) hr hq hrq t1 b1 u1 c1 hz hc
   have term:∀ (c j:Nat),c < T2.length→j < T.length→0≤nth (M.getD n []) j*nth ((T.map (co x k T2 B2)).getD j []) c∧nth (M.getD n []) j*nth ((T.map (co x k T2 B2)).getD j []) c≤36:=fun c j hc hj=> mul_rng (by omega) (mrow.rng j hj) ((wrow j hj).rng c hc)
   -- the loop over the columns
   obtain⟨t,l1,l2⟩:=qW (S:=jF x.Complex.Prime x.Complex.Dims x.Complex.Maps x.Levels M ⟨T.map (co x k T2 B2),0⟩ (n:Int)) (fun s=>(100 - s).toNat) (fun s=>∃c:Nat,c≤T2.length∧s=(c:Int)) (fun t=> t= .inl ()) (s:=0) ⟨0,vL _,rfl⟩ (by
    rintro _ ⟨c,hc,rfl⟩;unfold jF;dsimp only;by_cases cw:0 < T.length
    ·rw[if_pos (by rw[hWl]; omega),getI_0 (by rw[hWl]; exact cw) [],ob,(wrow 0 cw).len]
     by_cases cc:c < T2.length
     ·left
      have inner:forR 0 ((T.map (co x k T2 B2)).length:Int) (F454_3_B x.Complex.Prime x.Complex.Dims x.Complex.Maps x.Levels M ⟨T.map (co x k T2 B2),0⟩ (n:Int) (c:Int)) (F454_3_D x.Complex.Prime x.Complex.Dims x.Complex.Maps x.Levels M ⟨T.map (co x k T2 B2),0⟩ (n:Int) (c:Int)) 0=some (dot (nth (M.getD n [])) (T.map (co x k T2 B2)) T.length c):=by
       have bd:∀j,j≤T.length→0≤sumI (fun i=> nth (M.getD n []) i*nth ((T.map (co x k T2 B2)).getD i []) c) j∧sumI (fun i=> nth (M.getD n []) i*nth ((T.map (co x k T2 B2)).getD i []) c) j≤36*j:=fun j=> by
        induction j with
        |zero=> intro _; simp[sumI]
        |succ j ih=>
         intro hj;have a:=ih (by omega);have b:=term c j cc (by omega);simp only[sumI];omega
       obtain⟨u,i1,i2⟩:=qx (B:=F454_3_B x.Complex.Prime x.Complex.Dims x.Complex.Maps x.Levels M ⟨T.map (co x k T2 B2),0⟩ (n:Int) (c:Int)) (D:=F454_3_D x.Complex.Prime x.Complex.Dims x.Complex.Maps x.Levels M ⟨T.map (co x k T2 B2),0⟩ (n:Int) (c:Int)) (hi:=((T.map (co x k T2 B2)).length:Int)) T.length (by rw[hWl]) (by omega) (fun j s=> s=sumI (fun i=> nth (M.getD n []) i*nth ((T.map (co x k T2 B2)).getD i []) c) j) (fun s=> s=sumI (fun i=> nth (M.getD n []) i*nth ((T.map (co x k T2 B2)).getD i []) c) T.length) (s:=0) rfl (by
        rintro j _ hj rfl;left;have a:=bd j (by omega);have b:=term c j cc hj;have e1:getI (M.getD n []) (j:Int)=some (nth (M.getD n []) j):=qn (by rw[mrow.len]; exact hj) 0;have e2:getI ((T.map (co x k T2 B2)).getD j []) (c:Int)=some (nth ((T.map (co x k T2 B2)).getD j []) c):=qn (by rw[(wrow j hj).len]; exact cc) 0;unfold F454_3_B;dsimp only;rw[qn hn [],ob,e1,ob,qn (by rw[hWl]; exact hj) [],ob,e2,ob,qo (by omega) (by omega),ob,qo (by omega) (by omega),ob];exact⟨_,rfl,rfl⟩) (by
        rintro _ rfl;exact⟨_,rfl,rfl⟩)
       rw[i1,i2]; rfl
      have rm:remI (dot (nth (M.getD n [])) (T.map (co x k T2 B2)) T.length c) x.Complex.Prime=some 0:=by
       unfold remI;rw[if_neg (by omega),tmod_zero (key c cc)]
      rw[if_pos (by omega),inner,ob,rm,ob,if_pos rfl,qo (by omega) (by omega),ob];exact⟨_,rfl,⟨c+1,by omega,rfl⟩,by omega⟩
     ·right
      rw[if_neg (by omega)];exact⟨_,rfl,rfl⟩
    ·right
     rw[if_neg (by rw[hWl]; omega)];exact⟨_,rfl,rfl⟩)
   rw[l1,l2]
 obtain⟨W,w1,w2⟩:=W;have w1':F324 ⟨⟨x.Complex.Prime,x.Complex.Dims,x.Complex.Maps⟩,x.Levels⟩ r (m:Int) (q - r)=_:=w1;have hMl:M.length≤8:=by rw[f2]; simp; omega
 rw[w1',ob,if_pos rfl,eq_loop' (by omega) (fun n hn=> by
  unfold F454_1_B;rw[w2 n hn,ob]) fun i=> rfl,ob]
theorem rank_part{x:qd}(hx:LooseF x){r n q c:Int}{M:List (List Int)}(c1:F166 x r n q=some c)(c3:c=0→qI x∧(0≤r∧r≤8)∧(0≤n∧n < x.Levels.length)∧0≤q∧q≤5)(hM:F324 x r n q=some ⟨M,c⟩)(h0:c≠0→M=[]):
  F454_92 x.Complex.Prime x.Complex.Dims x.Complex.Maps x.Levels r n q M c=some true:=by
 have hs:=hx.small;unfold F454_92;by_cases hc:c=0
 ·obtain⟨hv,hr,⟨hn0,hn1⟩,hq⟩:=c3 hc
  rw[if_pos hc];by_cases cn:n < 1
  ·rw[if_pos cn]
  rw[if_neg cn];by_cases cq:q < r
  ·rw[if_pos cq]
  rw[if_neg cq];obtain⟨m,rfl⟩:∃m:Nat,n=((m+1:Nat):Int):=⟨(n - 1).toNat,by omega⟩;have hm:m+1 < x.Levels.length:=by omega
  subst hc;have hT:=twice_part hx hv hm hr hq (by omega) hM;have hp:=hv.vc.p;have hd0:=zo hv (n:=m) (by omega);have hd1:=zo hv hm;obtain⟨Z,T,B',z1,t1,b1,zR,tR,bR,f1,f2,MR⟩:=diff_table hs hv hm hr hq (by omega);rw[hM]at f2;injection f2 with f2; injection f2 with f2 _
  have hZl:=qK zR;have hTl:=qK tR;rw[←f2]at f1 MR;have hMl0:M.length≤8:=by rw[f2]; simp; omega
  obtain⟨E,m2, -⟩:=F133_ech hp MR (by omega) (by omega);have dr:F152 ⟨⟨x.Complex.Prime,x.Complex.Dims,x.Complex.Maps⟩,x.Levels⟩ r ((m+1:Nat):Int) q=some ⟨(E.length:Int),0⟩:=by
   show F152 x r ((m+1:Nat):Int) q=_;unfold F152;rw[(page_zero hs hv hm hr hq).1,ob,if_pos rfl,f1,ob,m2,ob]
  have hMl:M.length≤8:=by rw[f2]; simp; omega
  rw[dr,ob,if_pos rfl];by_cases l0:0 < M.length
  ·have mr:=MR _ (qR l0 [])
   rw[if_pos (by omega),getI_0 l0 [],ob,mr.len];by_cases l1:0 < T.length
   ·have sp:=space_ok hp (w:=T.length) (ls:=[M]) (by omega) (by simp) (fun l hl=> by
     rw[List.mem_singleton.1 hl]; exact⟨by omega,MR⟩)
    have rr:F433 x.Complex.Prime (T.length:Int) M=some ⟨E,0⟩:=by
     unfold F433;rw[sp,ob,if_pos rfl,m2,ob]
    rw[if_pos (by omega),rr,ob,if_pos rfl,if_pos rfl];exact hT
   ·rw[if_neg (by omega)]
    exact hT
  ·rw[if_neg (by omega)]
   exact hT
 ·rw[if_neg hc,h0 hc]
  rfl
theorem base_part{x:qd}{r n q c:Int}{M:List (List Int)}(hN:F454_92 x.Complex.Prime x.Complex.Dims x.Complex.Maps x.Levels r n q M c=some true){y:qd}(hy:LooseF y){s m l d:Int}(d1:F166 y s m l=some d)(d2:F247 y s m l=some d)(d3:d=0→qI y∧(0≤s∧s≤8)∧(0≤m∧m < y.Levels.length)∧0≤l∧l≤5)
  {Z:List (List Int)} (hZ:d=0→F187 y s m l=some Z):F454_91 x.Complex.Prime x.Complex.Dims x.Complex.Maps x.Levels r n q M c y.Complex.Prime y.Complex.Dims y.Complex.Maps y.Levels s m l Z d=some true:=by
 have hs:=hy.small;unfold F454_91;by_cases hd:d=0
 ·obtain⟨hv,hr,⟨hn0,hn1⟩,hq⟩:=d3 hd
  obtain⟨k,rfl⟩:∃k:Nat,m=k:=⟨m.toNat,by omega⟩;have hk:k < y.Levels.length:=by omega
  have hp:=hv.vc.p;have hp1:1 < y.Complex.Prime:=by have:=hp.range; omega
  have hdm:=zo hv hk;have hll:=hv.ll;obtain⟨N,B,Z',a1,a2,a3,a4,a5,a6,a7,a8, -⟩:=base_count hs hv hk (r:=s) (q:=l) (by omega) (by omega);rw[hZ hd]at a3; cases a3;obtain⟨N',n1,n2, -⟩:=jK hs hv hk (r:=s) (q:=l) (by omega) (by omega);rw[a1]at n1; cases n1;obtain⟨B2,b1,b2, -⟩:=xD hs hv hk (r:=s) (q:=l) (by omega) (by omega);rw[a2]at b1; cases b1;subst hd;have hNl:=qK a4;have hBl:=qK a5;have hZl:=qK a6;have c1:F428 ⟨⟨y.Complex.Prime,y.Complex.Dims,y.Complex.Maps⟩,y.Levels⟩ s (k:Int) l=some ⟨N,0⟩:=by
   show F428 y s (k:Int) l=_;unfold F428;rw[d1,ob,if_pos rfl,a1,ob]
  have c2:F429 ⟨⟨y.Complex.Prime,y.Complex.Dims,y.Complex.Maps⟩,y.Levels⟩ s (k:Int) l=some ⟨N,0⟩:=by
   show F429 y s (k:Int) l=_;unfold F429;rw[d2,ob,if_pos rfl,n2,ob]
  have c3:F430 ⟨⟨y.Complex.Prime,y.Complex.Dims,y.Complex.Maps⟩,y.Levels⟩ s (k:Int) l=some ⟨B,0⟩:=by
   show F430 y s (k:Int) l=_;unfold F430;rw[d1,ob,if_pos rfl,a2,ob]
  have c4:F431 ⟨⟨y.Complex.Prime,y.Complex.Dims,y.Complex.Maps⟩,y.Levels⟩ s (k:Int) l=some ⟨B,0⟩:=by
   show F431 y s (k:Int) l=_;unfold F431;rw[d2,ob,if_pos rfl,b2,ob]
  have c5:F151 ⟨⟨y.Complex.Prime,y.Complex.Dims,y.Complex.Maps⟩,y.Levels⟩ s (k:Int) l=some ⟨(Z.length:Int),0⟩:=by
   show F151 y s (k:Int) l=_;unfold F151 F169;rw[d1,ob,if_pos rfl,a1,ob,a2,ob,qo (by omega) (by omega),ob,ob,show(N.length:Int) - (B.length:Int)=(Z.length:Int) by omega]
  have s1:F160 N N=some true:=F160_same (by omega) fun v hv'=> by rw[(a4.ok v hv').len]; omega
  have s2:F160 B B=some true:=F160_same (by omega) fun v hv'=> by rw[(a5.ok v hv').len]; omega
  have hZB:Rows y.Complex.Prime (dm y k) (Z++B):=fun v hv'=>(wK.1 hv').elim (a6.ok v) (a5.ok v);obtain⟨out,o1,o2⟩:=F133_ech hp hZB (by omega) (by rw[wP]; omega);have eo:out=N:=zj.same hp1 o2 a8;subst eo;have sp:=space_ok hp (w:=dm y k) (ls:=[Z,B]) (by omega) (by simp) (fun u hu=> by
   rcases wY.1 hu with q1|q1
   ·rw[q1]; exact⟨by omega,a6.ok⟩
   ·rw[List.mem_singleton.1 q1]; exact⟨by omega,a5.ok⟩)
  have c6:F432 y.Complex.Prime (dm y k:Int) Z B=some ⟨out,0⟩:=by
   unfold F432;rw[sp,ob,if_pos rfl,concat2 (by omega) (by omega),ob,o1,ob]
  rw[c1,ob,c2,ob,if_pos rfl,s1,ob,if_pos rfl,c3,ob,c4,ob,if_pos rfl,s2,ob,if_pos rfl,if_pos rfl,c5,ob,if_pos rfl,if_pos rfl];dsimp only;rw[qo (by omega) (by omega),ob,if_pos (by omega),qn (show k < y.Complex.Dims.length by omega) 0,ob,hdm.1,c6,ob,if_pos rfl,s1,ob,if_pos rfl];exact hN
 ·have c1:F428 ⟨⟨y.Complex.Prime,y.Complex.Dims,y.Complex.Maps⟩,y.Levels⟩ s m l=some ⟨[],d⟩:=by
   show F428 y s m l=_;unfold F428;rw[d1,ob,if_neg hd]
  have c2:F429 ⟨⟨y.Complex.Prime,y.Complex.Dims,y.Complex.Maps⟩,y.Levels⟩ s m l=some ⟨[],d⟩:=by
   show F429 y s m l=_;unfold F429;rw[d2,ob,if_neg hd]
  have c3:F430 ⟨⟨y.Complex.Prime,y.Complex.Dims,y.Complex.Maps⟩,y.Levels⟩ s m l=some ⟨[],d⟩:=by
   show F430 y s m l=_;unfold F430;rw[d1,ob,if_neg hd]
  have c4:F431 ⟨⟨y.Complex.Prime,y.Complex.Dims,y.Complex.Maps⟩,y.Levels⟩ s m l=some ⟨[],d⟩:=by
   show F431 y s m l=_;unfold F431;rw[d2,ob,if_neg hd]
  have s1:F160 [] []=some true:=F160_same (by simp) fun v hv'=> nomatch hv';rw[c1,ob,c2,ob,if_pos rfl,s1,ob,if_pos rfl,c3,ob,c4,ob,if_pos rfl,s1,ob,if_pos rfl,if_neg hd];exact hN
theorem law72{code:List U8}(hl:code.length≤9223372036854775807)(hb:∀b∈code,0≤b.val∧b.val≤255):F454 code=some true:=by
 unfold F454 F140;rw[ob];by_cases cl:4096 < (code.length:Int)
 ·rw[if_pos (by simpa using cl)]
 rw[if_neg (by simpa using cl)];have h:CodeOK code:=⟨by omega,hb⟩;obtain⟨x,r,n,q,e1,hx,hr,hn,hq⟩:=pd_draw h;have hs:=hx.small;obtain⟨c,c1,c2,c3⟩:=page_code hs r n q;obtain⟨M,c',p1,p2, -, -⟩:=pd_same hs r n q;have hc':c'=c∧(c≠0→M=[])∧M.length≤1000∧∀v∈M,v.length≤1000:=by
  by_cases hc:c=0
  ·obtain⟨hv,hr',⟨hn0,hn1⟩,hq'⟩:=c3 hc
   obtain⟨k,rfl⟩:∃k:Nat,n=k:=⟨n.toNat,by omega⟩;by_cases h0:k=0∨q < r
   ·obtain⟨Z,z1,z2,z3⟩:=pd_none hs hv (n:=k) (by omega) hr' hq' h0
    have e:F324 x r (k:Int) q=some ⟨Z.map fun _=>([]:List Int),0⟩:=by
     unfold F324;rw[c1,ob,if_pos hc,z3,ob]
    rw[p2]at e;injection e with e; injection e with e4 e5
    refine⟨by rw[hc]; exact e5,fun hh=> absurd hc hh,by rw[e4]; simp; omega,fun v hv'=>?_⟩;rw[e4]at hv';obtain⟨_, -,rfl⟩:=wL.1 hv';simp
   ·obtain⟨m,rfl⟩:∃m,k=m+1:=⟨k - 1,by omega⟩
    have hd0:=zo hv (n:=m) (by omega);have hd1:=zo hv (n:=m+1) (by omega);obtain⟨Z,T,B',z1,t1,b1,zR,tR,bR,f1,f2,MR⟩:=diff_table hs hv (m:=m) (by omega) hr' hq' (by omega);rw[p2]at f2;injection f2 with f2; injection f2 with e4 e5
    have hZl:=qK zR;have hTl:=qK tR;refine⟨by rw[hc]; exact e5,fun hh=> absurd hc hh,by rw[e4]; simp; omega,fun v hv'=>?_⟩;rw[e4]at hv';rw[(MR v hv').len]; omega
  ·have e:F324 x r n q=some ⟨[],c⟩:=by
    unfold F324;rw[c1,ob,if_neg hc]
   rw[p2]at e;injection e with e; injection e with e4 e5
   exact⟨e5,fun _=> e4,by rw[e4]; simp,by rw[e4]; exact fun v hv'=> nomatch hv'⟩
 obtain⟨rfl,m1,m2,m3⟩:=hc';have hN:=rank_part hx c1 c3 p2 m1;obtain⟨y,s,m,l,e2,hy,ht,hm,hl'⟩:=pb_draw h;have hsy:=hy.small;obtain⟨d,d1,d2,d3⟩:=page_code hsy s m l;obtain⟨Z,d',q1,q2, -, -⟩:=pb_same hsy s m l;have hd':d'=d∧(d=0→F187 y s m l=some Z)∧Z.length≤1000∧∀v∈Z,v.length≤1000:=by
  by_cases hd:d=0
  ·obtain⟨hv,hr',⟨hn0,hn1⟩,hq'⟩:=d3 hd
   obtain⟨k,rfl⟩:∃k:Nat,m=k:=⟨m.toNat,by omega⟩;have hd0:=zo hv (n:=k) (by omega);obtain⟨E,g1,g2,g3⟩:=js hsy hv (n:=k) (by omega) (r:=s) (q:=l) (by omega) (by omega);have e:F322 y s (k:Int) l=some ⟨E,0⟩:=by
    unfold F322;rw[d1,ob,if_pos hd,g1,ob]
   rw[q2]at e;injection e with e; injection e with e4 e5
   have hEl:=qK g3;refine⟨by rw[hd]; exact e5,fun _=> by rw[e4]; exact g1,by rw[e4]; omega,fun v hv'=>?_⟩;rw[e4]at hv';rw[(g3.ok v hv').len]; omega
  ·have e:F322 y s m l=some ⟨[],d⟩:=by
    unfold F322;rw[d1,ob,if_neg hd]
   rw[q2]at e;injection e with e; injection e with e4 e5
   exact⟨e5,fun hh=> absurd hh hd,by rw[e4]; simp,by rw[e4]; exact fun v hv'=> nomatch hv'⟩
 obtain⟨rfl,n1,n2,n3⟩:=hd';have hB:=base_part hN hy d1 d2 d3 n1;rw[e1,ob];dsimp only;rw[p2,ob,p1,ob,if_pos rfl,F160_same m2 m3,ob,if_pos rfl,e2,ob];dsimp only;rw[q2,ob,q1,ob,if_pos rfl,F160_same n2 n3,ob,if_pos rfl];exact hB
theorem law73{code:List U8}(h:LongL LongU code):F454 code=some true:=law72 h.1 h.2
end Rv
