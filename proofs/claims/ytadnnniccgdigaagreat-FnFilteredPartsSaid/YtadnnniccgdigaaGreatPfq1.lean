/- The plain law: what the typed functions answer: part 2 -/
import Derived.Test.YtadnnniccgdigaaGreatPfq0
namespace Rv
set_option linter.unusedVariables false
set_option linter.unusedSimpArgs false
set_option maxRecDepth 10000
theorem forI_inv{σ τ:Type}{B:Int→σ→Option (σ⊕τ)}{D:Int→σ→Option τ}(Inv:Nat→σ→Prop)(Q:τ→Prop)(n:Nat):
  ∀ (k i:Nat) (s:σ),i+k=n→Inv i s→(∀i s,i < n→Inv i s→(∃s',B i s=some (.inl s')∧Inv (i+1) s')∨∃t,B i s=some (.inr t)∧Q t)→(∀s,Inv n s→∃t,D n s=some t∧Q t)→∃t,forI B D k i s=some t∧Q t:=by
 intro k;induction k with
 |zero=>
  intro i s hk hI hb hd;have:i=n:=by omega
  subst this;exact hd s hI
 |succ k ih=>
  intro i s hk hI hb hd;simp only[forI];rcases hb i s (by omega) hI with⟨s',h1,h2⟩|⟨t,h1,h2⟩
  ·rw[h1]
   have:=ih (i+1) s' (by omega) h2 hb hd;simpa using this
  ·rw[h1]; exact⟨t,rfl,h2⟩
theorem qu{σ τ:Type}{B:Int→σ→Option (σ⊕τ)}{D:Int→σ→Option τ}{hi:Int}(n:Nat)(hn:hi=n)(hs:n < 4611686018427387904)(Inv:Nat→σ→Prop)(Q:τ→Prop){s:σ}(h0:Inv 0 s)
  (hb:∀ (i:Nat) s,i < n→Inv i s→(∃s',B i s=some (.inl s')∧Inv (i+1) s')∨∃t,B i s=some (.inr t)∧Q t) (hd:∀s,Inv n s→∃t,D n s=some t∧Q t):∃t,forR 0 hi B D s=some t∧Q t:=by
 subst hn;unfold forR;rw[if_pos (by omega)];have e:((n:Int) - 0).toNat=n:=by omega
 rw[e];exact forI_inv Inv Q n n 0 s (by omega) h0 hb hd
theorem forR_from{σ τ:Type}{B:Int→σ→Option (σ⊕τ)}{D:Int→σ→Option τ}{lo hi:Int}(l n:Nat)(hl:lo=l)(hn:hi=n)(hln:l≤n)(hs:n < 4611686018427387904)(Inv:Nat→σ→Prop)(Q:τ→Prop){s:σ}(h0:Inv l s)
  (hb:∀ (i:Nat) s,i < n→Inv i s→(∃s',B i s=some (.inl s')∧Inv (i+1) s')∨∃t,B i s=some (.inr t)∧Q t) (hd:∀s,Inv n s→∃t,D n s=some t∧Q t):∃t,forR lo hi B D s=some t∧Q t:=by
 subst hn; subst hl;unfold forR;rw[if_pos (by omega)];have e:((n:Int) - (l:Int)).toNat=n - l:=by omega
 rw[e];exact forI_inv Inv Q n (n - l) l s (by omega) h0 hb hd
theorem qV{σ τ:Type}{S:σ→Option (σ⊕τ)}(μ:σ→Nat)(Inv:σ→Prop)(Q:τ→Prop){s:σ}(h0:Inv s)
  (hb:∀s,Inv s→(∃s',S s=some (.inl s')∧Inv s'∧μ s' < μ s)∨∃t,S s=some (.inr t)∧Q t):∃t,qY S s=some t∧Q t:=by
 suffices∀k s,μ s≤k→Inv s→∃t,qY S s=some t∧Q t from this _ s (wE _) h0
 intro k;induction k with
 |zero=>
  intro s hk hI;rcases hb s hI with⟨s',h1,h2,h3⟩|⟨t,h1,h2⟩
  ·omega
  ·exact⟨t,loopW_eq.2 (.inr h1),h2⟩
 |succ k ih=>
  intro s hk hI;rcases hb s hI with⟨s',h1,h2,h3⟩|⟨t,h1,h2⟩
  ·obtain⟨t,h4,h5⟩:=ih s' (by omega) h2
   exact⟨t,loopW_eq.2 (.inl ⟨s',h1,h4⟩),h5⟩
  ·exact⟨t,loopW_eq.2 (.inr h1),h2⟩
theorem qr{α:Type}{l:List α}{i:Nat}(h:i < l.length):getI l (i:Int)=some l[i]:=by
 unfold getI;rw[if_pos (by omega)];simp[h]
theorem qk{α:Type}{l:List α}{i:Nat}(h:i < l.length)(d:α):getI l (i:Int)=some (l.getD i d):=by
 rw[qr h]; simp[h]
theorem qn{n:Int}(h0: -9223372036854775808≤n)(h1:n < 9223372036854775808):chk n=some n:=by
 unfold chk; rw[if_pos ⟨h0,h1⟩]
theorem za{α:Type}{l:List α}{i:Nat}(h:i < l.length)(y:α):setI l (i:Int) y=some (l.set i y):=by
 unfold setI;rw[if_pos (by omega),wQ]
theorem jE{a b:Int}(h:b≠0):remI a b=some (a.tmod b):=by unfold remI; rw[if_neg h]
theorem mkL_ok{α:Type}{b:Nat}{n:Int}{z:α}(k:Nat)(hn:n=k)(h:k*b≤1099511627776)(h2:k≤1099511627776):mkL b n z=some (List.replicate k z):=by
 subst hn;unfold mkL;rw[if_pos ⟨by omega,by omega,by omega⟩,wQ]
theorem qJ{α:Type}{b:Nat}{l l':List α}(h:(l.length+l'.length)*b≤1099511627776)(h2:l.length+l'.length≤1099511627776):app b l l'=some (l++l'):=by
 unfold app; rw[if_pos ⟨h,h2⟩]
def jU(o:Option Bool)(P:Prop):Prop:=∃b,o=some b∧(b=true↔P)
theorem jU.of_true{o:Option Bool}{P:Prop}(h:o=some true)(p:P):jU o P:=⟨true,h,by simp[p]⟩
theorem jU.of_false{o:Option Bool}{P:Prop}(h:o=some false)(p:¬P):jU o P:=⟨false,h,by simp[p]⟩
theorem jU.iff{o:Option Bool}{P Q:Prop}(h:jU o P)(e:P↔Q):jU o Q:=by
 obtain⟨b,h1,h2⟩:=h; exact⟨b,h1,h2.trans e⟩
theorem jU.same{o o':Option Bool}{P:Prop}(h:jU o P)(h':jU o' P):∃b,o=some b∧o'=some b∧(b=true↔P):=by
 obtain⟨b,h1,h2⟩:=h;obtain⟨b',h3,h4⟩:=h';have:b=b':=by rw[uL]; exact h2.trans h4.symm
 exact⟨b,h1,by rw[this]; exact h3,h2⟩
theorem jU.case{o:Option Bool}{P:Prop}(h:jU o P):(o=some true∧P)∨(o=some false∧¬P):=by
 obtain⟨b,h1,h2⟩:=h;cases b with
 |true=> exact .inl ⟨h1,h2.1 rfl⟩
 |false=> exact .inr ⟨h1,fun p=> by have:=h2.2 p; cases this⟩
def IsP(p:Int):Prop:=p=2∨p=3∨p=5∨p=7
theorem IsP.range{p:Int}(h:IsP p):2≤p∧p≤7:=by unfold IsP at h; omega
def RowOK(p w:Int)(row:L1):Prop:=(row.length:Int)=w∧∀x∈row,0≤x∧x < p
def TableOK(p c w:Int)(m:aJ):Prop:=(m.length:Int)=c∧∀row∈m,RowOK p w row
theorem xy(n lo hi:Int):F54 n lo hi=some (decide (lo≤n∧n≤hi)):=by
 unfold F54; by_cases h:lo≤n <;> simp[h]
theorem xx(n lo hi:Int):F56 n lo hi=some (decide (lo≤n∧n≤hi)):=by
 unfold F56; by_cases h:lo≤n <;> simp[h]
theorem F78_tells(p:Int):jU (F78 p) (IsP p):=by
 unfold F78 IsP;split
 ·exact .of_true rfl (by omega)
 split
 ·exact .of_true rfl (by omega)
 split
 ·exact .of_true rfl (by omega)
 ·exact⟨_,rfl,by simp; omega⟩
theorem F67_tells(p:Int):jU (F67 p) (IsP p):=by
 unfold F67 IsP;split
 ·exact .of_true rfl (by omega)
 split
 ·exact .of_true rfl (by omega)
 split
 ·exact .of_true rfl (by omega)
 ·exact⟨_,rfl,by simp; omega⟩
theorem F79_2{p w:Int}{m:aJ}(hp:2≤p∧p≤7){i:Nat}(hi:i < m.length)(hs:m[i].length≤1099511627776):
  ∃t,qY (F79_2_S p m w i) 0=some t∧((t= .inl ()∧∀x∈m[i],0≤x∧x < p)∨(t= .inr false∧¬∀x∈m[i],0≤x∧x < p)):=by
 refine qV (fun j:Int=>(m[i].length - j).toNat) (fun j=>∃n:Nat,j=n∧n≤m[i].length∧∀k (hk:k < n) (h2:k < m[i].length),0≤m[i][k]∧m[i][k] < p) _ ⟨0,rfl,by omega,fun k hk=> by omega⟩ ?_;rintro _ ⟨n,rfl,hn,hall⟩;unfold F79_2_S;simp only[qr hi,ob];by_cases hlt:(n:Int) < m[i].length
 ·have hnl:n < m[i].length:=by omega
  simp only[if_pos hlt,qr hnl,ob,qn (show(-9223372036854775808:Int)≤p - 1 by omega) (show p - 1 < 9223372036854775808 by omega),xy];by_cases hx:0≤m[i][n]∧m[i][n]≤p - 1
  ·left
   refine⟨n+1,?_,⟨n+1,rfl,hnl,fun k hk h2=>?_⟩,by omega⟩
   ·simp only[hx,and_self,decide_true,if_true,qn (show(-9223372036854775808:Int)≤(n:Int)+1 by omega) (show(n:Int)+1 < 9223372036854775808 by omega),ob]
   ·by_cases e:k=n
    ·subst e; omega
    ·exact hall k (by omega) h2
  ·right
   refine⟨.inr false,?_,.inr ⟨rfl,fun ha=> hx ?_⟩⟩
   ·simp[hx]
   ·have:=ha _ (wC hnl); omega
 ·right
  refine⟨.inl (),by simp only[if_neg hlt],.inl ⟨rfl,fun x hx=>?_⟩⟩;obtain⟨k,hk,rfl⟩:=wN hx;exact hall k (by omega) hk
theorem F79_tells{p c w:Int}{m:aJ}(hp:2≤p∧p≤7)(hm:m.length≤1099511627776)(hs:∀r∈m,r.length≤1099511627776):jU (F79 p m c w) (TableOK p c w m):=by
 unfold F79;by_cases hc:(m.length:Int)=c
 case neg=> rw[if_neg hc]; exact .of_false rfl fun h=> hc h.1
 rw[if_pos hc];obtain⟨t,h1,h2⟩:=qu (B:=F79_1_B p m w) (D:=F79_1_D p m w) (hi:=m.length) m.length rfl (by omega) (fun i _=>∀k (hk:k < i) (h2:k < m.length),RowOK p w m[k]) (fun t=>(t= .inl ()∧∀r∈m,RowOK p w r)∨(t= .inr false∧¬∀r∈m,RowOK p w r)) (s:=()) (fun k hk=> by omega) (fun i _ hi hI=> by
  unfold F79_1_B;simp only[qr hi,ob];by_cases hw:(m[i].length:Int)=w
  ·rw[if_pos hw]
   obtain⟨t,h1,h2⟩:=F79_2 (w:=w) hp hi (hs _ (wC hi));rw[h1];rcases h2 with⟨rfl,h2⟩|⟨rfl,h2⟩
   ·left
    refine⟨(),rfl,fun k hk h3=>?_⟩;by_cases e:k=i
    ·subst e; exact⟨hw,h2⟩
    ·exact hI k (by omega) h3
   ·right
    exact⟨_,rfl,.inr ⟨rfl,fun ha=> h2 (ha _ (wC hi)).2⟩⟩
  ·rw[if_neg hw]
   right;exact⟨_,rfl,.inr ⟨rfl,fun ha=> hw (ha _ (wC hi)).1⟩⟩) (fun _ hI=>⟨.inl (),rfl,.inl ⟨rfl,fun r hr=> by
    obtain⟨k,hk,rfl⟩:=wN hr;exact hI k hk hk⟩⟩)
 rw[h1];rcases h2 with⟨rfl,h2⟩|⟨rfl,h2⟩
 ·exact .of_true rfl ⟨hc,h2⟩
 ·exact .of_false rfl fun h=> h2 h.2
def addRow(p x:Int)(out row:L1):L1:=List.zipWith (fun o y=>(o+x*y).tmod p) out row
def linN(p:Int)(n:Nat)(v:L1)(m:aJ):Nat→L1
 |0=> List.replicate n 0
 |i+1=> addRow p (v.getD i 0) (linN p n v m i) (m.getD i [])
def lin(p:Int)(n:Nat)(v:L1)(m:aJ):L1:=linN p n v m v.length
structure LinOK (p:Int) (n:Nat) (v:L1) (m:aJ):Prop where
 hp:2≤p∧p≤7
 hv:∀x∈v,0≤x∧x < p
 hl:v.length≤m.length
 hr:∀l∈m,l.length=n∧∀y∈l,0≤y∧y < p
 hn:n≤1048576
 hvl:v.length≤1048576
theorem small_mul{p x y o:Int}(hp:2≤p∧p≤7)(hx:0≤x∧x < p)(hy:0≤y∧y < p)(ho:0≤o∧o < p):
  chk (x*y)=some (x*y)∧chk (o+x*y)=some (o+x*y)∧0≤(o+x*y).tmod p∧(o+x*y).tmod p < p:=by
 have h1:0≤x*y:=Int.mul_nonneg hx.1 hy.1;have h2:x*y≤6*6:=Int.mul_le_mul (by omega) (by omega) hy.1 (by omega);exact⟨qn (by omega) (by omega),qn (by omega) (by omega),Int.tmod_nonneg _ (by omega),uA _ (by omega)⟩
theorem xm{p x:Int}{out row:L1}(h:row.length=out.length):(addRow p x out row).length=out.length:=by simp[addRow,h]
theorem addRow_ok{p x:Int}(hp:2≤p∧p≤7)(hx:0≤x∧x < p){out row:L1}(ho:∀o∈out,0≤o∧o < p)(hy:∀y∈row,0≤y∧y < p):∀o∈addRow p x out row,0≤o∧o < p:=by
 intro o hm;unfold addRow at hm;obtain⟨i,hi,rfl⟩:=wN hm;simp at hi ⊢;exact(small_mul hp hx (hy _ (wC (by omega))) (ho _ (wC (by omega)))).2.2
theorem linN_ok{p:Int}{n:Nat}{v:L1}{m:aJ}(H:LinOK p n v m):∀i,i≤v.length→(linN p n v m i).length=n∧∀o∈linN p n v m i,0≤o∧o < p:=by
 intro i;induction i with
 |zero=> intro _; refine⟨by simp[linN],fun o ho=>?_⟩; simp[linN]at ho; obtain⟨_,rfl⟩:=ho; have:=H.hp; omega
 |succ i ih=>
  intro hi;obtain⟨h1,h2⟩:=ih (by omega);have e1:v.getD i 0=v[i]:=by simp[show i < v.length by omega]
  have hm:i < m.length:=by have:=H.hl; omega
  have e2:m.getD i []=m[i]:=by simp[hm]
  have hr:=H.hr _ (wC hm);simp only[linN,e1,e2];exact⟨by rw[xm (by rw[hr.1,h1]),h1],addRow_ok H.hp (H.hv _ (wC _)) h2 hr.2⟩
def upTo(p x:Int)(out row:L1)(k:Nat):L1:=(addRow p x out row).take k++out.drop k
theorem upTo_len{p x:Int}{out row:L1}(h:row.length=out.length)(k:Nat)(hk:k≤out.length):(upTo p x out row k).length=out.length:=by
 simp[upTo,xm h]; omega
theorem upTo_at{p x:Int}{out row:L1}(h:row.length=out.length){k:Nat}(hk:k < out.length)(h2:k < (upTo p x out row k).length):(upTo p x out row k)[k]=out[k]:=by
 have e:(upTo p x out row k)[k]? =some out[k]:=by
  unfold upTo;rw[gJ (by simp[xm h]; omega)];simp[xm h,uI (Nat.le_of_lt hk),hk]
 rw[gE h2]at e;exact wA e
theorem upTo_set{p x:Int}{out row:L1}(h:row.length=out.length){k:Nat}(hk:k < out.length):
  (upTo p x out row k).set k ((out[k]+x*(row[k]'(by omega))).tmod p)=upTo p x out row (k+1):=by
 have hl:=xm (p:=p) (x:=x) h;unfold upTo;rw[yV _ _ (by simp[hl]; omega),List.take_succ_eq_append_getElem (by omega:k < (addRow p x out row).length)];have e1:((addRow p x out row).take k).length=k:=by simp[hl]; omega
 rw[e1,uD];simp[addRow];rw[yY hk];rfl
theorem upTo_zero{p x:Int}{out row:L1}:upTo p x out row 0=out:=by simp[upTo]
theorem upTo_all{p x:Int}{out row:L1}(h:row.length=out.length):upTo p x out row out.length=addRow p x out row:=by
 have hl:=xm (p:=p) (x:=x) h;unfold upTo;rw[wR (by omega),List.drop_of_length_le (by omega),vK]
theorem F80_eq{p:Int}{n:Nat}{v:L1}{m:aJ}(H:LinOK p n v m){w:Int}(hw:w=n):F80 p m v w=some (lin p n v m):=by
 have hn:=H.hn;have hvl:=H.hvl;have hlm:=H.hl;unfold F80;rw[mkL_ok n hw (by omega) (by omega),ob];obtain⟨t,h1,rfl⟩:=qu (B:=F80_1_B p m v) (D:=F80_1_D p m v) (hi:=v.length) v.length rfl (by omega) (fun i s=> s=linN p n v m i) (fun t=> t=lin p n v m) (s:=List.replicate n 0) rfl (fun i s hi hI=> by
  subst hI;left;obtain⟨q1,q2⟩:=linN_ok H i (by omega);have hm:i < m.length:=by omega
  obtain⟨r1,r2⟩:=H.hr _ (wC hm);have hx:=H.hv _ (wC hi);have e1:v.getD i 0=v[i]:=by simp[hi]
  have e2:m.getD i []=m[i]:=by simp[hm]
  refine⟨_,?_,rfl⟩;unfold F80_1_B;have hlen:m[i].length=(linN p n v m i).length:=by omega
  obtain⟨t,h1,rfl⟩:=qV (S:=F80_2_S p m v i) (fun s=>(n - s.2).toNat) (fun s=>∃k:Nat,k≤n∧s=(upTo p v[i] (linN p n v m i) m[i] k,(k:Int))) (fun t=> t=linN p n v m (i+1)) (s:=(linN p n v m i,0)) ⟨0,by omega,by rw[upTo_zero]; rfl⟩ (by
   rintro _ ⟨k,hk,rfl⟩;unfold F80_2_S;have hul:=upTo_len (p:=p) (x:=v[i]) hlen k (by omega);simp only;by_cases hlt:(k:Int) < (upTo p v[i] (linN p n v m i) m[i] k).length
   ·rw[if_pos hlt]
    have hk1:k < (upTo p v[i] (linN p n v m i) m[i] k).length:=by omega
    have hk2:k < (linN p n v m i).length:=by omega
    have uT:k < m[i].length:=by omega
    obtain⟨s1,s2,s3,s4⟩:=small_mul H.hp hx (r2 _ (wC uT)) (q2 _ (wC hk2));have aK:p≠0:=by have:=H.hp; omega
    left;refine⟨(upTo p v[i] (linN p n v m i) m[i] (k+1),((k+1:Nat):Int)),?_,⟨k+1,by omega,rfl⟩,by simp only; omega⟩;simp only[qr hk1,upTo_at hlen hk2 hk1,qr hi,qr hm,qr uT,ob,s1,s2,jE aK,za hk1,upTo_set hlen hk2,qn (show(-9223372036854775808:Int)≤(k:Int)+1 by omega) (show(k:Int)+1 < 9223372036854775808 by omega)];rfl
   ·rw[if_neg hlt]
    right;have hkn:k=(linN p n v m i).length:=by omega
    refine⟨_,rfl,?_⟩;rw[hkn,upTo_all hlen];simp only[linN,e1,e2])
  rw[h1];rfl) (fun s hI=>⟨_,rfl,hI⟩)
 rw[h1];rfl
theorem F119_2_eq{p:Int}{n:Nat}{v:L1}{m:aJ}(H:LinOK p n v m){i:Nat}(hi:i < v.length)(hm:i < m.length):
  forR 0 (m[i].length:Int) (F119_2_B p v m i v[i] m[i]) (F119_2_D p v m i v[i] m[i]) (linN p n v m i)=some (linN p n v m (i+1)):=by
 have hn:=H.hn;obtain⟨q1,q2⟩:=linN_ok H i (by omega);obtain⟨r1,r2⟩:=H.hr _ (wC hm);have hx:=H.hv _ (wC hi);have e1:v.getD i 0=v[i]:=by simp[hi]
 have e2:m.getD i []=m[i]:=by simp[hm]
 have hlen:m[i].length=(linN p n v m i).length:=by omega
 have aK:p≠0:=by have:=H.hp; omega
 obtain⟨t,h1,rfl⟩:=qu (B:=F119_2_B p v m i v[i] m[i]) (D:=F119_2_D p v m i v[i] m[i]) (hi:=m[i].length) m[i].length rfl (by omega) (fun k s=> s=upTo p v[i] (linN p n v m i) m[i] k) (fun t=> t=linN p n v m (i+1)) (s:=linN p n v m i) upTo_zero.symm (by
  intro k s hk hI;subst hI;left;have hul:=upTo_len (p:=p) (x:=v[i]) hlen k (by omega);have hk1:k < (upTo p v[i] (linN p n v m i) m[i] k).length:=by omega
  have hk2:k < (linN p n v m i).length:=by omega
  obtain⟨s1,s2,s3,s4⟩:=small_mul H.hp hx (r2 _ (wC hk)) (q2 _ (wC hk2));refine⟨_,?_,rfl⟩;unfold F119_2_B;simp only[qr hk,qr hk1,upTo_at hlen hk2 hk1,ob,s1,s2,jE aK,za hk1,upTo_set hlen hk2]) (by
  intro s hI;refine⟨s,rfl,?_⟩;rw[hI,hlen,upTo_all hlen];simp only[linN,e1,e2])
 exact h1
theorem F119_1_eq{p:Int}{n:Nat}{v:L1}{m:aJ}(H:LinOK p n v m)(i:Nat)(hi:i < v.length):F119_1_B p v m (i:Int) (linN p n v m i)=some (.inl (linN p n v m (i+1))):=by
 have hlm:=H.hl;have hm:i < m.length:=by omega
 unfold F119_1_B;rw[qr hi,ob,qr hm,ob,F119_2_eq H hi hm,ob]
theorem F119_eq{p:Int}{n:Nat}{v:L1}{m:aJ}(H:LinOK p n v m){w:Int}(hw:w=n):F119 p w v m=some (lin p n v m):=by
 have hn:=H.hn;have hvl:=H.hvl;have hs:v.length < 4611686018427387904:=by omega
 unfold F119;rw[mkL_ok n hw (by omega) (by omega),ob];obtain⟨t,h1,rfl⟩:=qu (B:=F119_1_B p v m) (D:=F119_1_D p v m) (hi:=v.length) v.length rfl hs (fun i s=> s=linN p n v m i) (fun t=> t=lin p n v m) (s:=List.replicate n 0) rfl (by
  intro i s hi hI;subst hI;left;exact⟨_,F119_1_eq H i hi,rfl⟩) (fun s hI=>⟨s,by unfold F119_1_D; rfl,hI⟩)
 rw[h1,ob]
theorem F115_eq{l:L1}{f:Int→Option Bool}(P:Int→Bool)(hl:l.length≤1099511627776)(hf:∀x∈l,f x=some (P x)):∃i:Int,F115 l f=some i∧(0≤i↔∃x∈l,P x=true):=by
 unfold F115;have hs:l.length < 4611686018427387904:=by omega
 obtain⟨t,h1,h2⟩:=qu (B:=F115_1_B l f) (D:=F115_1_D l f) (hi:=l.length) l.length rfl hs (fun i _=>∀k (hk:k < i) (h2:k < l.length),P l[k]=false) (fun t=>(t= .inl ()∧∀x∈l,P x=false)∨∃i:Nat,t= .inr (i:Int)∧∃x∈l,P x=true) (s:=()) (fun k hk=> by omega) (by
  intro i _ hi hI;unfold F115_1_B;rw[qr hi,ob,hf _ (wC hi),ob];cases hp:P l[i]with
  |true=> right; exact⟨_,rfl,.inr ⟨i,rfl,_,wC hi,hp⟩⟩
  |false=>
   left;refine⟨(),rfl,fun k hk h2=>?_⟩;by_cases e:k=i
   ·subst e; exact hp
   ·exact hI k (by omega) h2) (by
  intro _ hI;refine⟨.inl (),rfl,.inl ⟨rfl,fun x hx=>?_⟩⟩;obtain⟨k,hk,rfl⟩:=wN hx;exact hI k hk hk)
 rw[h1];rcases h2 with⟨rfl,h2⟩|⟨i,rfl,h2⟩
 ·exact⟨-1,rfl,⟨fun h=> by omega,fun⟨x,hx,hp⟩=> by rw[h2 x hx]at hp; cases hp⟩⟩
 ·exact⟨i,rfl,⟨fun _=> h2,fun _=> Int.natCast_nonneg i⟩⟩
theorem F82_eq{l:L1}{f:Int→Option Bool}(P:Int→Bool)(hl:l.length≤1099511627776)(hf:∀x∈l,f x=some (P x)):F82 l f=some (l.any P):=by
 obtain⟨i,h1,h2⟩:=F115_eq P hl hf;unfold F82;rw[h1,ob];have:decide (0≤i)=l.any P:=by
  rw[uL];simp only[decide_eq_true_eq,vX];exact h2
 rw[this]
theorem F128_eq{l:aJ}{f:L1→Option Bool}(P:L1→Bool)(hl:l.length≤1099511627776)(hf:∀x∈l,f x=some (P x)):∃i:Int,F128 l f=some i∧(0≤i↔∃x∈l,P x=true):=by
 unfold F128;have hs:l.length < 4611686018427387904:=by omega
 obtain⟨t,h1,h2⟩:=qu (B:=kK l f) (D:=F128_1_D l f) (hi:=l.length) l.length rfl hs (fun i _=>∀k (hk:k < i) (h2:k < l.length),P l[k]=false) (fun t=>(t= .inl ()∧∀x∈l,P x=false)∨∃i:Nat,t= .inr (i:Int)∧∃x∈l,P x=true) (s:=()) (fun k hk=> by omega) (by
  intro i _ hi hI;unfold kK;rw[qr hi,ob,hf _ (wC hi),ob];cases hp:P l[i]with
  |true=> right; exact⟨_,rfl,.inr ⟨i,rfl,_,wC hi,hp⟩⟩
  |false=>
   left;refine⟨(),rfl,fun k hk h2=>?_⟩;by_cases e:k=i
   ·subst e; exact hp
   ·exact hI k (by omega) h2) (by
  intro _ hI;refine⟨.inl (),rfl,.inl ⟨rfl,fun x hx=>?_⟩⟩;obtain⟨k,hk,rfl⟩:=wN hx;exact hI k hk hk)
 rw[h1];rcases h2 with⟨rfl,h2⟩|⟨i,rfl,h2⟩
 ·exact⟨-1,rfl,⟨fun h=> by omega,fun⟨x,hx,hp⟩=> by rw[h2 x hx]at hp; cases hp⟩⟩
 ·exact⟨i,rfl,⟨fun _=> h2,fun _=> Int.natCast_nonneg i⟩⟩
theorem F117_eq{l:aJ}{f:L1→Option Bool}(P:L1→Bool)(hl:l.length≤1099511627776)(hf:∀x∈l,f x=some (P x)):F117 l f=some (l.any P):=by
 obtain⟨i,h1,h2⟩:=F128_eq P hl hf;unfold F117;rw[h1,ob];have:decide (0≤i)=l.any P:=by
  rw[uL];simp only[decide_eq_true_eq,vX];exact h2
 rw[this]
def rowB(p w:Int)(row:L1):Bool:=decide ((row.length:Int)=w)&& row.all fun x=> decide (0≤x∧x < p)
theorem rowB_iff{p w:Int}{row:L1}:rowB p w row=true↔RowOK p w row:=by
 unfold rowB RowOK;simp only[wU,decide_eq_true_eq,wZ]
theorem F130_eq{p:Int}(hp:2≤p∧p≤7)(x:Int):F130 x p=some (!decide (0≤x∧x < p)):=by
 unfold F130;rw[qn (by omega) (by omega),ob,xx,ob]
 congr 3
 exact propext ⟨fun h=>⟨h.1,by omega⟩,fun h=>⟨h.1,by omega⟩⟩
theorem F129_eq{p w:Int}(hp:2≤p∧p≤7){l:L1}(hl:l.length≤1099511627776):F129 p w l=some (rowB p w l):=by
 unfold F129 rowB;by_cases h:(l.length:Int)=w
 ·rw[if_pos h,F82_eq (fun x=> !decide (0≤x∧x < p)) hl (fun x _=> F130_eq hp x),ob]
  simp[h,List.not_any_eq_all_not]
 ·rw[if_neg h]; simp[h]
theorem F116_eq{p w:Int}(hp:2≤p∧p≤7){l:L1}(hl:l.length≤1099511627776):F116 l p w=some (!rowB p w l):=by
 unfold F116; rw[F129_eq hp hl,ob]
theorem F90_eq{p w:Int}(hp:2≤p∧p≤7){m:aJ}(hm:m.length≤1099511627776)(hs:∀r∈m,r.length≤1099511627776):F90 p w m=some (m.all (rowB p w)):=by
 unfold F90;rw[F117_eq (fun r=> !rowB p w r) hm (fun r hr=> F116_eq hp (hs r hr)),ob];simp[List.not_any_eq_all_not]
theorem F90_tells{p w:Int}(hp:2≤p∧p≤7){m:aJ}(hm:m.length≤1099511627776)(hs:∀r∈m,r.length≤1099511627776):jU (F90 p w m) (∀r∈m,RowOK p w r):=
 ⟨_,F90_eq hp hm hs,by simp only[wZ,rowB_iff]⟩
theorem F92_tells{l:L1}(hl:l.length≤1099511627776):jU (F92 l) (∀x∈l,x=0):=by
 unfold F92;have h:F82 l (fun x=> F118 x)=some (l.any fun x=> !decide (x=0)):=F82_eq _ hl (fun x _=> rfl);rw[h,ob];exact⟨_,rfl,by simp[List.not_any_eq_all_not]⟩
theorem F81_tells{l:L1}(hl:l.length≤1099511627776):∃i,F81 l=some i∧(0≤i↔¬∀x∈l,x=0):=by
 unfold F81;have hs:l.length < 4611686018427387904:=by omega
 obtain⟨t,h1,h2⟩:=qu (B:=F81_1_B l) (D:=F81_1_D l) (hi:=l.length) l.length rfl hs (fun i _=>∀k (hk:k < i) (h2:k < l.length),l[k]=0) (fun t=>(t= .inl ()∧∀x∈l,x=0)∨∃i:Nat,t= .inr (i:Int)∧¬∀x∈l,x=0) (s:=()) (fun k hk=> by omega) (by
  intro i _ hi hI;unfold F81_1_B;rw[qr hi,ob];by_cases hp:l[i]=0
  ·rw[if_pos hp]
   left;refine⟨(),rfl,fun k hk h2=>?_⟩;by_cases e:k=i
   ·subst e; exact hp
   ·exact hI k (by omega) h2
  ·rw[if_neg hp]
   right;exact⟨_,rfl,.inr ⟨i,rfl,fun ha=> hp (ha _ (wC hi))⟩⟩) (by
  intro _ hI;refine⟨.inl (),rfl,.inl ⟨rfl,fun x hx=>?_⟩⟩;obtain⟨k,hk,rfl⟩:=wN hx;exact hI k hk hk)
 rw[h1];rcases h2 with⟨rfl,h2⟩|⟨i,rfl,h2⟩
 ·exact⟨-1,rfl,⟨fun h=> by omega,fun h=> absurd h2 h⟩⟩
 ·exact⟨i,rfl,⟨fun _=> h2,fun _=> Int.natCast_nonneg i⟩⟩
structure zx (x:qe):Prop where
 d:x.D.length≤1048576
 m:x.M.length≤1048576
 r:∀m∈x.M,m.length≤1048576∧∀l∈m,l.length≤1048576
structure ShapeC (x:qe):Prop where
 p:IsP x.P
 dl:1≤x.D.length∧x.D.length≤6
 ml:x.M.length+1=x.D.length
 dims:∀d∈x.D,0≤d∧d≤8
def xd(x:qe)(k:Nat):Prop:=TableOK x.P (x.D.getD (k+1) 0) (x.D.getD k 0) (x.M.getD k [])
def SqAt(x:qe)(k:Nat):Prop:=∀row∈x.M.getD k [],∀y∈lin x.P (x.D.getD (k - 1) 0).toNat row (x.M.getD (k - 1) []),y=0
structure zp (x:qe):Prop extends ShapeC x where
 tab:∀k,k < x.M.length→xd x k
 sq:∀k,0 < k→k < x.M.length→SqAt x k
theorem lin_len{p:Int}{n:Nat}{v:L1}{m:aJ}(H:LinOK p n v m):(lin p n v m).length=n:=(linN_ok H _ (wE _)).1
theorem linOK_of{x:qe}(hs:ShapeC x){k:Nat}(h1:0 < k)(h2:k < x.M.length)(t1:xd x (k - 1))(t2:xd x k){row:L1}(hr:row∈x.M.getD k []):
  LinOK x.P (x.D.getD (k - 1) 0).toNat row (x.M.getD (k - 1) [])∧0≤x.D.getD (k - 1) 0∧x.D.getD (k - 1) 0≤8:=by
 have hd:∀j,j < x.D.length→0≤x.D.getD j 0∧x.D.getD j 0≤8:=fun j hj=> by
  have:=hs.dims _ (wC hj);simpa[hj]using this
 have hml:=hs.ml;have d1:=hd (k - 1) (by omega);have d2:=hd k (by omega);obtain⟨q1,q2⟩:=t2.2 row hr;refine⟨⟨hs.p.range,q2,?_,fun l hl=>?_,?_,?_⟩,d1⟩
 ·have:=t1.1
  have e:k - 1+1=k:=by omega
  rw[e]at this;omega
 ·obtain⟨r1,r2⟩:=t1.2 l hl
  exact⟨by omega,r2⟩
 ·omega
 ·omega
theorem jV{x:qe}(h:x.D.length≤1048576):F86 x=some ((x.D.length:Int) - 1):=by
 unfold F86; rw[qn (by omega) (by omega),ob]
theorem mapsD{x:qe}{k:Nat}(h:k < x.M.length):x.M.getD k []=x.M[k]:=by simp[h]
theorem F39_3_eq{x:qe}(hs:ShapeC x){k:Nat}(h2:k < x.M.length)(t1:0 < k→xd x (k - 1))(t2:xd x k)(hsm:zx x):
  ∃t,qY (F39_3_S x (k:Int)) 0=some t∧((t= .inl ()∧(0 < k→SqAt x k))∨(t= .inr false∧0 < k∧¬SqAt x k)):=by
 have hml:=hs.ml;have hdl:=hs.dl;have hk:=(hsm.r _ (wC h2)).1;refine qV (fun j:Int=>(x.M[k].length - j).toNat) (fun j=>∃n:Nat,j=n∧n≤x.M[k].length∧(0 < k→∀i (hi:i < n) (h3:i < x.M[k].length),∀y∈lin x.P (x.D.getD (k - 1) 0).toNat x.M[k][i] (x.M.getD (k - 1) []),y=0)) _ ⟨0,rfl,by omega,fun _ i hi=> by omega⟩ ?_;rintro _ ⟨n,rfl,hn,hall⟩;unfold F39_3_S;rw[qr h2,ob];by_cases hlt:(n:Int) < x.M[k].length
 ·rw[if_pos hlt]
  have hnl:n < x.M[k].length:=by omega
  by_cases h0:0 < k
  ·rw[if_pos (by omega)]
   obtain⟨H,d0,d8⟩:=linOK_of hs h0 h2 (t1 h0) t2 (row:=x.M[k][n]) (by rw[mapsD h2]; exact wC hnl);have e1:((k:Int) - 1)=((k - 1:Nat):Int):=by omega
   rw[qn (by omega) (by omega),ob,e1,qk (show k - 1 < x.M.length by omega) [],ob,qr hnl,ob,qk (show k - 1 < x.D.length by omega) 0,ob,
    F80_eq H (by omega),ob]
   obtain⟨i,g1,g2⟩:=F81_tells (l:=lin x.P (x.D.getD (k - 1) 0).toNat x.M[k][n] (x.M.getD (k - 1) [])) (by rw[lin_len H]; omega);rw[g1,ob];by_cases hz:0≤i
   ·rw[if_pos hz]
    right;refine⟨_,rfl,.inr ⟨rfl,h0,fun ha=> g2.1 hz (ha _ (by rw[mapsD h2]; exact wC hnl))⟩⟩
   ·rw[if_neg hz]
    left;rw[qn (by omega) (by omega),ob];refine⟨_,rfl,⟨n+1,rfl,hnl,fun _ i hi h3=>?_⟩,by omega⟩;by_cases e:i=n
    ·subst e
     exact vT fun hq=> hz (g2.2 hq)
    ·exact hall h0 i (by omega) h3
  ·rw[if_neg (by omega)]
   right;exact⟨_,rfl,.inl ⟨rfl,fun h=> absurd h h0⟩⟩
 ·rw[if_neg hlt]
  right;refine⟨_,rfl,.inl ⟨rfl,fun h0 row hr=>?_⟩⟩;rw[mapsD h2]at hr;obtain⟨i,hi,rfl⟩:=wN hr;exact hall h0 i (by omega) hi
theorem F39_2_eq{x:qe}(hs:ShapeC x)(hsm:zx x):
  ∃t,forR 0 (x.M.length:Int) (F39_2_B x) (F39_2_D x) ()=some t∧((t= .inl ()∧(∀k,k < x.M.length→xd x k)∧∀k,0 < k→k < x.M.length→SqAt x k)∨(t= .inr false∧¬((∀k,k < x.M.length→xd x k)∧∀k,0 < k→k < x.M.length→SqAt x k))):=by
 have hml:=hs.ml;have hm:=hsm.m;have hlen:x.M.length < 4611686018427387904:=by omega
 refine qu x.M.length rfl hlen (fun i _=>(∀k,k < i→xd x k)∧∀k,0 < k→k < i→SqAt x k) _ ⟨fun k hk=> by omega,fun k _ hk=> by omega⟩ ?_ ?_
 ·rintro i _ hi ⟨ht,hq⟩
  unfold F39_2_B;have e2:((i:Int)+1)=((i+1:Nat):Int):=by omega
  have hr:=hsm.r _ (wC hi);rw[qr hi,ob,e2,qk (show i+1 < x.D.length by omega) 0,ob,qk (show i < x.D.length by omega) 0,ob];have hT:=F79_tells (p:=x.P) (c:=x.D.getD (i+1) 0) (w:=x.D.getD i 0) (m:=x.M[i]) hs.p.range (by omega) (fun r h=> by have:=hr.2 r h; omega);rcases hT.case with⟨h1,h2⟩|⟨h1,h2⟩
  ·rw[h1,ob,if_pos rfl]
   have hti:xd x i:=by unfold xd; rw[mapsD hi]; exact h2
   obtain⟨t,g1,g2⟩:=F39_3_eq hs hi (fun h0=> ht _ (by omega)) hti hsm;rw[g1,ob];rcases g2 with⟨rfl,g2⟩|⟨rfl,g0,g2⟩
   ·left
    refine⟨(),rfl,fun k hk=>?_,fun k h0 hk=>?_⟩
    ·by_cases e:k=i
     ·subst e; exact hti
     ·exact ht k (by omega)
    ·by_cases e:k=i
     ·subst e; exact g2 h0
     ·exact hq k h0 (by omega)
   ·right
    exact⟨_,rfl,.inr ⟨rfl,fun ha=> g2 (ha.2 i g0 hi)⟩⟩
  ·rw[h1,ob,if_neg wD]
   right;refine⟨_,rfl,.inr ⟨rfl,fun ha=> h2 ?_⟩⟩;have:=ha.1 i hi;unfold xd at this;rw[mapsD hi]at this;exact this
 ·rintro _ ⟨ht,hq⟩
  exact⟨.inl (),rfl,.inl ⟨rfl,ht,hq⟩⟩
theorem F39_1_eq{x:qe}(hsm:zx x):∃t,forR 0 (x.D.length:Int) (F39_1_B x) (F39_1_D x) ()=some t∧((t= .inl ()∧∀d∈x.D,0≤d∧d≤8)∨(t= .inr false∧¬∀d∈x.D,0≤d∧d≤8)):=by
 have hm:=hsm.d;have hlen:x.D.length < 4611686018427387904:=by omega
 refine qu x.D.length rfl hlen (fun i _=>∀k (hk:k < i) (h2:k < x.D.length),0≤x.D[k]∧x.D[k]≤8) _ (fun k hk=> by omega) ?_ ?_
 ·rintro i _ hi hI
  unfold F39_1_B;rw[qr hi,ob,xy,ob];by_cases h:0≤x.D[i]∧x.D[i]≤8
  ·rw[if_pos (by simpa using h)]
   left;refine⟨(),rfl,fun k hk h2=>?_⟩;by_cases e:k=i
   ·subst e; exact h
   ·exact hI k (by omega) h2
  ·rw[if_neg (by simpa using h)]
   right;exact⟨_,rfl,.inr ⟨rfl,fun ha=> h (ha _ (wC hi))⟩⟩
 ·rintro _ hI
  refine⟨.inl (),rfl,.inl ⟨rfl,fun d hd=>?_⟩⟩;obtain⟨k,hk,rfl⟩:=wN hd;exact hI k hk hk
theorem F39_tells{x:qe}(hsm:zx x):jU (F39 x) (zp x):=by
 have hd:=hsm.d;unfold F39;rcases(F78_tells x.P).case with⟨h1,hp⟩|⟨h1,hp⟩
 case inr=> rw[h1,ob,if_neg wD]; exact .of_false rfl fun h=> hp h.p
 rw[h1,ob,if_pos rfl];by_cases c1:(x.D.length:Int) < 1
 ·rw[if_pos c1]; exact .of_false rfl fun h=> by have:=h.dl; omega
 rw[if_neg c1];by_cases c2:6 < (x.D.length:Int)
 ·rw[if_pos c2]; exact .of_false rfl fun h=> by have:=h.dl; omega
 rw[if_neg c2,qn (by omega) (by omega),ob];by_cases c3:(x.M.length:Int)=(x.D.length:Int) - 1
 case neg=> rw[if_neg c3]; exact .of_false rfl fun h=> by have:=h.ml; omega
 rw[if_pos c3];obtain⟨t,g1,g2⟩:=F39_1_eq hsm;rw[g1,ob];rcases g2 with⟨rfl,g2⟩|⟨rfl,g2⟩
 case inr=> exact .of_false rfl fun h=> g2 h.dims
 have hs:ShapeC x:=⟨hp,by omega,by omega,g2⟩;obtain⟨t,k1,k2⟩:=F39_2_eq hs hsm;simp only;rw[k1,ob];rcases k2 with⟨rfl,k2,k3⟩|⟨rfl,k2⟩
 ·exact .of_true rfl ⟨hs,k2,k3⟩
 ·exact .of_false rfl fun h=> k2 ⟨h.tab,h.sq⟩
theorem F42_1_eq{x:qe}(hs:ShapeC x)(hsm:zx x):
  ∃t,forR 0 (x.M.length:Int) (F42_1_B x) (F42_1_D x) ()=some t∧((t= .inl ()∧∀k,k < x.M.length→xd x k)∨(t= .inr false∧¬∀k,k < x.M.length→xd x k)):=by
 have hml:=hs.ml;have hm:=hsm.m;have hlen:x.M.length < 4611686018427387904:=by omega
 refine qu x.M.length rfl hlen (fun i _=>∀k,k < i→xd x k) _ (fun k hk=> by omega) ?_ ?_
 ·rintro i _ hi ht
  unfold F42_1_B;have e2:((i:Int)+1)=((i+1:Nat):Int):=by omega
  have hr:=hsm.r _ (wC hi);rw[qr hi,ob,e2,qk (show i+1 < x.D.length by omega) 0,ob];have hti:xd x i↔((x.M[i].length:Int)=x.D.getD (i+1) 0∧∀r∈x.M[i],RowOK x.P (x.D.getD i 0) r):=by unfold xd; rw[mapsD hi]; rfl
  by_cases hc:(x.M[i].length:Int)=x.D.getD (i+1) 0
  ·rw[if_pos hc,qk (show i < x.D.length by omega) 0,ob]
   have hT:=F90_tells (p:=x.P) (w:=x.D.getD i 0) (m:=x.M[i]) hs.p.range (by omega) (fun r h=> by have:=hr.2 r h; omega);rcases hT.case with⟨h1,h2⟩|⟨h1,h2⟩
   ·rw[h1,ob,if_pos rfl]
    left;refine⟨(),rfl,fun k hk=>?_⟩;by_cases e:k=i
    ·subst e; exact hti.2 ⟨hc,h2⟩
    ·exact ht k (by omega)
   ·rw[h1,ob,if_neg wD]
    right;exact⟨_,rfl,.inr ⟨rfl,fun ha=> h2 (hti.1 (ha i hi)).2⟩⟩
  ·rw[if_neg hc]
   right;exact⟨_,rfl,.inr ⟨rfl,fun ha=> hc (hti.1 (ha i hi)).1⟩⟩
 ·rintro _ ht
  exact⟨.inl (),rfl,.inl ⟨rfl,ht⟩⟩
theorem F91_eq{x:qe}(hs:ShapeC x)(hsm:zx x){k:Nat}(h1:0 < k)(h2:k < x.M.length)(t1:xd x (k - 1))(t2:xd x k){row:L1}(hr:row∈x.M.getD k []):
  F91 x (k:Int) row=some (lin x.P (x.D.getD (k - 1) 0).toNat row (x.M.getD (k - 1) [])):=by
 have hml:=hs.ml;have hdl:=hs.dl;obtain⟨H,d0,d8⟩:=linOK_of hs h1 h2 t1 t2 hr;unfold F91;have e1:((k:Int) - 1)=((k - 1:Nat):Int):=by omega
 rw[if_neg (by omega),jV hsm.d,ob,if_neg (by omega),qn (by omega) (by omega),ob,e1,qk (show k - 1 < x.D.length by omega) 0,ob,qk (show k - 1 < x.M.length by omega) [],ob,
  F119_eq H (by omega),ob]
theorem F42_3_eq{x:qe}(hs:ShapeC x)(hsm:zx x)(ht:∀k,k < x.M.length→xd x k){n:Nat}(hn:2≤n)(h2:n - 1 < x.M.length):
  ∃t,forR 0 ((x.M[n - 1].length:Nat):Int) (F42_3_B x (n:Int) x.M[n - 1]) (F42_3_D x (n:Int) x.M[n - 1]) ()=some t∧((t= .inl ()∧SqAt x (n - 1))∨(t= .inr false∧¬SqAt x (n - 1))):=by
 have hml:=hs.ml;have hdl:=hs.dl;have hk:=(hsm.r _ (wC h2)).1;have hlen:x.M[n - 1].length < 4611686018427387904:=by omega
 refine qu x.M[n - 1].length rfl hlen (fun i _=>∀j (hj:j < i) (h3:j < x.M[n - 1].length),∀y∈lin x.P (x.D.getD (n - 1 - 1) 0).toNat x.M[n - 1][j] (x.M.getD (n - 1 - 1) []),y=0) _ (fun j hj=> by omega) ?_ ?_
 ·rintro i _ hi hI
  unfold F42_3_B;have hrow:x.M[n - 1][i]∈x.M.getD (n - 1) []:=by rw[mapsD h2]; exact wC hi
  have e1:((n:Int) - 1)=((n - 1:Nat):Int):=by omega
  have t1:=ht (n - 1 - 1) (by omega);have t2:=ht (n - 1) h2;obtain⟨H,d0,d8⟩:=linOK_of hs (by omega) h2 t1 t2 hrow;rw[qr hi,ob,qn (by omega) (by omega),ob,e1,F91_eq hs hsm (by omega) h2 t1 t2 hrow,ob];rcases(F92_tells (l:=lin x.P (x.D.getD (n - 1 - 1) 0).toNat x.M[n - 1][i] (x.M.getD (n - 1 - 1) [])) (by rw[lin_len H]; omega)).case with⟨g1,g2⟩|⟨g1,g2⟩
  ·rw[g1,ob,if_pos rfl]
   left;refine⟨(),rfl,fun j hj h3=>?_⟩;by_cases e:j=i
   ·subst e; exact g2
   ·exact hI j (by omega) h3
  ·rw[g1,ob,if_neg wD]
   right;exact⟨_,rfl,.inr ⟨rfl,fun ha=> g2 (ha _ hrow)⟩⟩
 ·rintro _ hI
  refine⟨.inl (),rfl,.inl ⟨rfl,fun row hr=>?_⟩⟩;rw[mapsD h2]at hr;obtain⟨j,hj,rfl⟩:=wN hr;exact hI j hj hj
theorem F42_2_eq{x:qe}(hs:ShapeC x)(hsm:zx x)(ht:∀k,k < x.M.length→xd x k):
  ∃t,qY (F42_2_S x) 2=some t∧((t= .inl ()∧∀k,0 < k→k < x.M.length→SqAt x k)∨(t= .inr false∧¬∀k,0 < k→k < x.M.length→SqAt x k)):=by
 have hml:=hs.ml;have hdl:=hs.dl;refine qV (fun j:Int=>(x.D.length+2 - j).toNat) (fun j=>∃n:Nat,j=n∧2≤n∧n≤x.D.length+1∧∀k,0 < k→k < n - 1→k < x.M.length→SqAt x k) _ ⟨2,rfl,by omega,by omega,fun k h0 hk=> by omega⟩ ?_;rintro _ ⟨n,rfl,hn,hn2,hall⟩;unfold F42_2_S;rw[jV hsm.d,ob];by_cases hlt:(n:Int)≤(x.D.length:Int) - 1
 ·rw[if_pos hlt]
  have e1:((n:Int) - 1)=((n - 1:Nat):Int):=by omega
  have h2:n - 1 < x.M.length:=by omega
  rw[qn (by omega) (by omega),ob,e1,qr h2,ob];obtain⟨t,g1,g2⟩:=F42_3_eq hs hsm ht hn h2;rw[g1,ob];rcases g2 with⟨rfl,g2⟩|⟨rfl,g2⟩
  ·left
   refine⟨((n+1:Nat):Int),?_,⟨n+1,rfl,by omega,by omega,fun k h0 hk h3=>?_⟩,by omega⟩
   ·simp only
    rw[qn (by omega) (by omega),ob];rfl
   ·by_cases e:k=n - 1
    ·subst e; exact g2
    ·exact hall k h0 (by omega) h3
  ·right
   exact⟨_,rfl,.inr ⟨rfl,fun ha=> g2 (ha _ (by omega) h2)⟩⟩
 ·rw[if_neg hlt]
  right;exact⟨_,rfl,.inl ⟨rfl,fun k h0 hk=> hall k h0 (by omega) hk⟩⟩
theorem F42_tells{x:qe}(hsm:zx x):jU (F42 x) (zp x):=by
 have hd:=hsm.d;unfold F42;rcases(F67_tells x.P).case with⟨h1,hp⟩|⟨h1,hp⟩
 case inr=> rw[h1,ob,if_neg wD]; exact .of_false rfl fun h=> hp h.p
 rw[h1,ob,if_pos rfl,jV hd,ob,xx,ob];by_cases c1:0≤(x.D.length:Int) - 1∧(x.D.length:Int) - 1≤5
 case neg=> rw[if_neg (by simpa using c1)]; exact .of_false rfl fun h=> by have:=h.dl; omega
 rw[if_pos (by simpa using c1)];by_cases c3:(x.M.length:Int)=(x.D.length:Int) - 1
 case neg=> rw[if_neg c3]; exact .of_false rfl fun h=> by have:=h.ml; omega
 rw[if_pos c3];have h88:F82 x.D (fun y=> F88 y)=some (x.D.any fun d=> !decide (0≤d∧d≤8)):=F82_eq _ (by omega) (fun d _=> by unfold F88; rw[xx,ob]);rw[h88,ob];have hany:(x.D.any fun d=> !decide (0≤d∧d≤8))=true↔¬∀d∈x.D,0≤d∧d≤8:=by
  simp only[vX,yA,decide_eq_false_iff_not];constructor
  ·rintro⟨d,h1,h2⟩ ha; exact h2 (ha d h1)
  ·intro hn
   exact vT fun hc=> hn fun d hd=> vT fun h=> hc ⟨d,hd,h⟩
 by_cases c4:(x.D.any fun d=> !decide (0≤d∧d≤8))=true
 ·rw[if_pos c4]; exact .of_false rfl fun h=> hany.1 c4 h.dims
 rw[if_neg c4];have hdims:∀d∈x.D,0≤d∧d≤8:=vT fun hc=> c4 (hany.2 hc);have hs:ShapeC x:=⟨hp,by omega,by omega,hdims⟩;obtain⟨t,g1,g2⟩:=F42_1_eq hs hsm;rw[g1,ob];rcases g2 with⟨rfl,ht⟩|⟨rfl,ht⟩
 case inr=> exact .of_false rfl fun h=> ht h.tab
 obtain⟨t,k1,k2⟩:=F42_2_eq hs hsm ht;simp only;rw[k1,ob];rcases k2 with⟨rfl,k2⟩|⟨rfl,k2⟩
 ·exact .of_true rfl ⟨hs,ht,k2⟩
 ·exact .of_false rfl fun h=> k2 h.sq
def zh(ms:L3)(k i j:Nat):Int:=((ms.getD k []).getD i []).getD j 0
def InT(ms:L3)(k i j:Nat):Prop:=k < ms.length∧i < (ms.getD k []).length∧j < ((ms.getD k []).getD i []).length
theorem qz{α:Type}{l:List α}{i:Nat}(h:i < l.length)(d:α):l.getD i d∈l:=by
 rw[gC,gE h]; exact wC h
structure qG (x:qc):Prop where
 c:zx x.C
 l:x.L.length≤1048576
 r:∀q∈x.L,q.length≤1048576
def LevAt(x:qc)(k i j:Nat):Prop:=zh x.C.M k i j=0∨(x.L.getD k []).getD j 0≤(x.L.getD (k+1) []).getD i 0
structure LevC (x:qc):Prop where
 ll:x.L.length=x.C.D.length
 lv:∀n,n < x.L.length→((x.L.getD n []).length:Int)=x.C.D.getD n 0∧∀q∈x.L.getD n [],0≤q∧q≤5
structure qx (x:qc):Prop extends LevC x where
 vc:zp x.C
 le:∀k i j,InT x.C.M k i j→LevAt x k i j
theorem levsD{x:qc}{k:Nat}(h:k < x.L.length):x.L.getD k []=x.L[k]:=by simp[h]
theorem bounds{x:qc}(hv:zp x.C)(hl:LevC x){k i j:Nat}(h:InT x.C.M k i j):k+1 < x.L.length∧j < (x.L.getD k []).length∧i < (x.L.getD (k+1) []).length:=by
 obtain⟨h1,h2,h3⟩:=h;have hml:=hv.ml;have hll:=hl.ll;have ht:=hv.tab k h1;have l1:=(hl.lv k (by omega)).1;have l2:=(hl.lv (k+1) (by omega)).1;have hi:(x.C.M.getD k []).getD i []∈x.C.M.getD k []:=qz h2 [];have r:=(ht.2 _ hi).1;have t1:=ht.1;refine⟨by omega,by omega,by omega⟩
theorem F77_eq{x:qc}{k i:Nat}(h1:k < x.L.length)(h2:i < (x.L.getD k []).length):F77 x (k:Int) (i:Int)=some ((x.L.getD k []).getD i 0):=by
 unfold F77;rw[qk h1 [],ob,qk h2 0,ob]
theorem F76_eq{x:qe}(hs:x.D.length≤1048576){k:Nat}(h:k+1 < x.D.length)(hm:k < x.M.length):F76 x ((k+1:Nat):Int)=some (x.M.getD k []):=by
 unfold F76;have e:(((k+1:Nat):Int) - 1)=(k:Int):=by omega
 rw[qn (by omega) (by omega),ob,xy,ob,if_pos (by simp; omega),qn (by omega) (by omega),ob,e,qk hm [],ob]
theorem F38_2_eq{x:qc}(hsm:qG x){n:Nat}(hn:n < x.L.length):
  ∃t,qY (F38_2_S x (n:Int)) 0=some t∧((t= .inl ()∧∀q∈x.L.getD n [],0≤q∧q≤5)∨(t= .inr false∧¬∀q∈x.L.getD n [],0≤q∧q≤5)):=by
 have hr:=hsm.r _ (wC hn);rw[levsD hn];refine qV (fun j:Int=>(x.L[n].length - j).toNat) (fun j=>∃m:Nat,j=m∧m≤x.L[n].length∧∀k (hk:k < m) (h2:k < x.L[n].length),0≤x.L[n][k]∧x.L[n][k]≤5) _ ⟨0,rfl,by omega,fun k hk=> by omega⟩ ?_;rintro _ ⟨m,rfl,hm,hall⟩;unfold F38_2_S;rw[qr hn,ob];by_cases hlt:(m:Int) < x.L[n].length
 ·have hml:m < x.L[n].length:=by omega
  rw[if_pos hlt,qr hml,ob,xy,ob];by_cases hx:0≤x.L[n][m]∧x.L[n][m]≤5
  ·rw[if_pos (by simpa using hx),qn (by omega) (by omega),ob]
   left;refine⟨_,rfl,⟨m+1,rfl,hml,fun k hk h2=>?_⟩,by omega⟩;by_cases e:k=m
   ·subst e; exact hx
   ·exact hall k (by omega) h2
  ·rw[if_neg (by simpa using hx)]
   right;exact⟨_,rfl,.inr ⟨rfl,fun ha=> hx (ha _ (wC hml))⟩⟩
 ·rw[if_neg hlt]
  right;refine⟨_,rfl,.inl ⟨rfl,fun q hq=>?_⟩⟩;obtain⟨k,hk,rfl⟩:=wN hq;exact hall k (by omega) hk
def LvAt(x:qc)(n:Nat):Prop:=((x.L.getD n []).length:Int)=x.C.D.getD n 0∧∀q∈x.L.getD n [],0≤q∧q≤5
theorem F38_1_eq{x:qc}(hsm:qG x)(hl:x.L.length=x.C.D.length):
  ∃t,forR 0 (x.L.length:Int) (F38_1_B x) (F38_1_D x) ()=some t∧((t= .inl ()∧∀n,n < x.L.length→LvAt x n)∨(t= .inr false∧¬∀n,n < x.L.length→LvAt x n)):=by
 have hm:=hsm.l;have hlen:x.L.length < 4611686018427387904:=by omega
 refine qu x.L.length rfl hlen (fun i _=>∀k,k < i→LvAt x k) _ (fun k hk=> by omega) ?_ ?_
 ·rintro i _ hi ht
  unfold F38_1_B;rw[qk hi [],ob,qk (show i < x.C.D.length by omega) 0,ob];by_cases hc:((x.L.getD i []).length:Int)=x.C.D.getD i 0
  ·rw[if_pos hc]
   obtain⟨t,g1,g2⟩:=F38_2_eq hsm hi;rw[g1,ob];rcases g2 with⟨rfl,g2⟩|⟨rfl,g2⟩
   ·left
    refine⟨(),rfl,fun k hk=>?_⟩;by_cases e:k=i
    ·subst e; exact⟨hc,g2⟩
    ·exact ht k (by omega)
   ·right
    exact⟨_,rfl,.inr ⟨rfl,fun ha=> g2 (ha i hi).2⟩⟩
  ·rw[if_neg hc]
   right;exact⟨_,rfl,.inr ⟨rfl,fun ha=> hc (ha i hi).1⟩⟩
 ·rintro _ ht
  exact⟨.inl (),rfl,.inl ⟨rfl,ht⟩⟩
theorem F38_5_eq{x:qc}(hsm:qG x)(hv:zp x.C)(hl:LevC x){k i:Nat}(hk:k < x.C.M.length)(hi:i < (x.C.M.getD k []).length):
  ∃t,qY (F38_5_S x ((k+1:Nat):Int) (x.C.M.getD k []) (i:Int)) 0=some t∧((t= .inl ()∧∀j,j < ((x.C.M.getD k []).getD i []).length→LevAt x k i j)∨(t= .inr false∧¬∀j,j < ((x.C.M.getD k []).getD i []).length→LevAt x k i j)):=by
 have hdl:=hv.dl;have hml:=hv.ml;have hrow:(x.C.M.getD k []).getD i []∈x.C.M.getD k []:=qz hi [];have hr:((x.C.M.getD k []).getD i []).length≤1048576:=(hsm.c.r _ (by rw[mapsD hk]; exact wC hk)).2 _ hrow;refine qV (fun j:Int=>(((x.C.M.getD k []).getD i []).length - j).toNat) (fun j=>∃m:Nat,j=m∧m≤((x.C.M.getD k []).getD i []).length∧∀j,j < m→LevAt x k i j) _ ⟨0,rfl,by omega,fun k hk=> by omega⟩ ?_;rintro _ ⟨m,rfl,hm,hall⟩;unfold F38_5_S;rw[qk hi [],ob];by_cases hlt:(m:Int) < ((x.C.M.getD k []).getD i []).length
 ·have hm2:m < ((x.C.M.getD k []).getD i []).length:=by omega
  obtain⟨b1,b2,b3⟩:=bounds hv hl (show InT x.C.M k i m from ⟨hk,hi,hm2⟩);rw[if_pos hlt,qk hm2 0,ob];by_cases h0:((x.C.M.getD k []).getD i []).getD m 0=0
  ·rw[if_pos h0,qn (by omega) (by omega),ob]
   left;refine⟨_,rfl,⟨m+1,rfl,hm2,fun j hj=>?_⟩,by omega⟩;by_cases e:j=m
   ·subst e; exact .inl h0
   ·exact hall j (by omega)
  ·have e1:(((k+1:Nat):Int) - 1)=(k:Int):=by omega
   rw[if_neg h0,qn (by omega) (by omega),ob,e1,F77_eq (by omega) b2,ob,F77_eq b1 b3,ob];by_cases hlv:(x.L.getD (k+1) []).getD i 0 < (x.L.getD k []).getD m 0
   ·rw[if_pos hlv]
    right;refine⟨_,rfl,.inr ⟨rfl,fun ha=>?_⟩⟩;rcases ha m hm2 with h|h
    ·exact h0 h
    ·omega
   ·rw[if_neg hlv,qn (by omega) (by omega),ob]
    left;refine⟨_,rfl,⟨m+1,rfl,hm2,fun j hj=>?_⟩,by omega⟩;by_cases e:j=m
    ·subst e; exact .inr (by omega)
    ·exact hall j (by omega)
 ·rw[if_neg hlt]
  right;exact⟨_,rfl,.inl ⟨rfl,fun j hj=> hall j (by omega)⟩⟩
def LeAt(x:qc)(k:Nat):Prop:=∀i j,InT x.C.M k i j→LevAt x k i j
theorem F38_4_eq{x:qc}(hsm:qG x)(hv:zp x.C)(hl:LevC x){k:Nat}(hk:k < x.C.M.length):
  ∃t,forR 0 ((x.C.M.getD k []).length:Int) (F38_4_B x ((k+1:Nat):Int) (x.C.M.getD k [])) (F38_4_D x ((k+1:Nat):Int) (x.C.M.getD k [])) ()=some t∧((t= .inl ()∧LeAt x k)∨(t= .inr false∧¬LeAt x k)):=by
 have hm:(x.C.M.getD k []).length≤1048576:=(hsm.c.r _ (by rw[mapsD hk]; exact wC hk)).1;have hlen:(x.C.M.getD k []).length < 4611686018427387904:=by omega
 refine qu (x.C.M.getD k []).length rfl hlen (fun n _=>∀i,i < n→∀j,InT x.C.M k i j→LevAt x k i j) _ (fun i hi=> by omega) ?_ ?_
 ·rintro i _ hi ht
  unfold F38_4_B;obtain⟨t,g1,g2⟩:=F38_5_eq hsm hv hl hk hi;rw[g1,ob];rcases g2 with⟨rfl,g2⟩|⟨rfl,g2⟩
  ·left
   refine⟨(),rfl,fun j hj m hin=>?_⟩;by_cases e:j=i
   ·subst e; exact g2 m hin.2.2
   ·exact ht j (by omega) m hin
  ·right
   exact⟨_,rfl,.inr ⟨rfl,fun ha=> g2 fun j hj=> ha i j ⟨hk,hi,hj⟩⟩⟩
 ·rintro _ ht
  exact⟨.inl (),rfl,.inl ⟨rfl,fun i j hin=> ht i hin.2.1 j hin⟩⟩
theorem F38_3_eq{x:qc}(hsm:qG x)(hv:zp x.C)(hl:LevC x):
  ∃t,forR 1 (x.L.length:Int) (F38_3_B x) (F38_3_D x) ()=some t∧((t= .inl ()∧∀k,k < x.C.M.length→LeAt x k)∨(t= .inr false∧¬∀k,k < x.C.M.length→LeAt x k)):=by
 have hm:=hsm.l;have hll:=hl.ll;have hml:=hv.ml;have hdl:=hv.dl;have hlen:x.L.length < 4611686018427387904:=by omega
 refine forR_from 1 x.L.length rfl rfl (by omega) hlen (fun n _=> 1≤n∧∀k,k < n - 1→LeAt x k) _ ⟨wE _,fun k hk=> by omega⟩ ?_ ?_
 ·rintro n _ hn ⟨h1,ht⟩
  unfold F38_3_B;obtain⟨k,rfl⟩:∃k,n=k+1:=⟨n - 1,by omega⟩;have hk:k < x.C.M.length:=by omega
  rw[F76_eq hsm.c.d (by omega) hk,ob];obtain⟨t,g1,g2⟩:=F38_4_eq hsm hv hl hk;rw[g1,ob];rcases g2 with⟨rfl,g2⟩|⟨rfl,g2⟩
  ·left
   refine⟨(),rfl,by omega,fun m hm'=>?_⟩;by_cases e:m=k
   ·subst e; exact g2
   ·exact ht m (by omega)
  ·right
   exact⟨_,rfl,.inr ⟨rfl,fun ha=> g2 (ha k hk)⟩⟩
 ·rintro _ ⟨h1,ht⟩
  exact⟨.inl (),rfl,.inl ⟨rfl,fun k hk=> ht k (by omega)⟩⟩
theorem F38_tells{x:qc}(hsm:qG x):jU (F38 x) (qx x):=by
 unfold F38;rcases(F39_tells hsm.c).case with⟨h1,hv⟩|⟨h1,hv⟩
 case inr=> rw[h1,ob,if_neg wD]; exact .of_false rfl fun h=> hv h.vc
 rw[h1,ob,if_pos rfl];by_cases c1:(x.L.length:Int)=x.C.D.length
 case neg=> rw[if_neg c1]; exact .of_false rfl fun h=> by have:=h.ll; omega
 rw[if_pos c1];obtain⟨t,g1,g2⟩:=F38_1_eq hsm (by omega);rw[g1,ob];rcases g2 with⟨rfl,g2⟩|⟨rfl,g2⟩
 case inr=> exact .of_false rfl fun h=> g2 h.lv
 have hl:LevC x:=⟨by omega,g2⟩;obtain⟨t,k1,k2⟩:=F38_3_eq hsm hv hl;simp only;rw[k1,ob];rcases k2 with⟨rfl,k2⟩|⟨rfl,k2⟩
 ·exact .of_true rfl ⟨hl,hv,fun k i j h=> k2 k h.1 i j h⟩
 ·exact .of_false rfl fun h=> k2 fun k hk i j hin=> h.le k i j hin
theorem F41_1_eq{x:qc}(hsm:qG x)(hl:x.L.length=x.C.D.length):
  ∃t,forR 0 (x.L.length:Int) (F41_1_B x) (F41_1_D x) ()=some t∧((t= .inl ()∧∀n,n < x.L.length→LvAt x n)∨(t= .inr false∧¬∀n,n < x.L.length→LvAt x n)):=by
 have hm:=hsm.l;have hlen:x.L.length < 4611686018427387904:=by omega
 refine qu x.L.length rfl hlen (fun i _=>∀k,k < i→LvAt x k) _ (fun k hk=> by omega) ?_ ?_
 ·rintro i _ hi ht
  unfold F41_1_B;rw[qk hi [],ob,qk (show i < x.C.D.length by omega) 0,ob];by_cases hc:((x.L.getD i []).length:Int)=x.C.D.getD i 0
  ·rw[if_pos hc]
   have hr:(x.L.getD i []).length≤1048576:=hsm.r _ (by rw[levsD hi]; exact wC hi);have h83:F82 (x.L.getD i []) (fun y=> F83 y)=some ((x.L.getD i []).any fun q=> !decide (0≤q∧q≤5)):=F82_eq _ (by omega) (fun q _=> by unfold F83; rw[xx,ob]);have hany:((x.L.getD i []).any fun q=> !decide (0≤q∧q≤5))=true↔¬∀q∈x.L.getD i [],0≤q∧q≤5:=by
    simp only[vX,yA,decide_eq_false_iff_not];constructor
    ·rintro⟨d,h1,h2⟩ ha; exact h2 (ha d h1)
    ·intro hn
     exact vT fun hc=> hn fun d hd=> vT fun h=> hc ⟨d,hd,h⟩
   rw[h83,ob];by_cases c4:((x.L.getD i []).any fun q=> !decide (0≤q∧q≤5))=true
   ·rw[if_pos c4]
    right;exact⟨_,rfl,.inr ⟨rfl,fun ha=> hany.1 c4 (ha i hi).2⟩⟩
   ·rw[if_neg c4]
    left;refine⟨(),rfl,fun k hk=>?_⟩;by_cases e:k=i
    ·subst e; exact⟨hc,vT fun h=> c4 (hany.2 h)⟩
    ·exact ht k (by omega)
  ·rw[if_neg hc]
   right;exact⟨_,rfl,.inr ⟨rfl,fun ha=> hc (ha i hi).1⟩⟩
 ·rintro _ ht
  exact⟨.inl (),rfl,.inl ⟨rfl,ht⟩⟩
theorem F85_and{ms:L3}{f:Int→Int→Int→Int→Bool→Option Bool}(P:Nat→Nat→Nat→Prop)(h1:ms.length≤1048576)(h2:∀m∈ms,m.length≤1048576∧∀r∈m,r.length≤1048576)
  (hf:∀k i j b,InT ms k i j→∃b',f ((k:Int)+1) i j (zh ms k i j) b=some b'∧(b'=true↔b=true∧P k i j)):jU (F85 ms f true) (∀k i j,InT ms k i j→P k i j):=by
 unfold F85;have hl1:ms.length < 4611686018427387904:=by omega
 refine qu (τ:=Bool) (σ:=Bool) ms.length rfl hl1 (fun n b=>(b=true↔∀k i j,k < n→InT ms k i j→P k i j)) _ (by simp) ?_ ?_
 ·intro k b hk hI
  left;rw[qk hk [],ob];have hmem:ms.getD k []∈ms:=qz hk [];have hm:=h2 _ hmem;have hl2:(ms.getD k []).length < 4611686018427387904:=by have:=hm.1; omega
  suffices hs:∃t,forR 0 ((ms.getD k []).length:Int) _ _ b=some t∧(t=true↔∀k' i j,k' < k+1→InT ms k' i j→P k' i j) by
   obtain⟨t,g1,g2⟩:=hs;rw[g1,ob];exact⟨t,rfl,g2⟩
  refine qu (τ:=Bool) (σ:=Bool) (ms.getD k []).length rfl hl2 (fun n b=>(b=true↔(∀k' i j,k' < k→InT ms k' i j→P k' i j)∧∀i j,i < n→InT ms k i j→P k i j)) _ (by rw[hI]; simp) ?_ ?_
  ·intro i b hi hI2
   left;rw[qk hi [],ob];have nE:(ms.getD k []).getD i []∈ms.getD k []:=qz hi [];have tA:((ms.getD k []).getD i []).length < 4611686018427387904:=by have:=hm.2 _ nE; omega
   suffices hs:∃t,forR 0 (((ms.getD k []).getD i []).length:Int) _ _ b=some t∧(t=true↔(∀k' i j,k' < k→InT ms k' i j→P k' i j)∧∀i' j,i' < i+1→InT ms k i' j→P k i' j) by
    obtain⟨t,g1,g2⟩:=hs;rw[g1,ob];exact⟨t,rfl,g2⟩
   refine qu (τ:=Bool) (σ:=Bool) ((ms.getD k []).getD i []).length rfl tA (fun n b=>(b=true↔((∀k' i j,k' < k→InT ms k' i j→P k' i j)∧∀i' j,i' < i→InT ms k i' j→P k i' j)∧∀j,j < n→InT ms k i j→P k i j)) _ (by rw[hI2]; simp) ?_ ?_
   ·intro j b hj hI3
    left;have hin:InT ms k i j:=⟨hk,hi,hj⟩;rw[qk hj 0,ob,qn (by omega) (by omega),ob];obtain⟨b',g1,g2⟩:=hf k i j b hin;have pL:f ((k:Int)+1) i j (((ms.getD k []).getD i []).getD j 0) b=some b':=g1;rw[pL,ob];refine⟨b',rfl,?_⟩;rw[g2,hI3];constructor
    ·rintro⟨⟨q1,q2⟩,q3⟩
     refine⟨q1,fun j' hj' hin'=>?_⟩;by_cases e:j'=j
     ·subst e; exact q3
     ·exact q2 j' (by omega) hin'
    ·rintro⟨q1,q2⟩
     exact⟨⟨q1,fun j' hj' hin'=> q2 j' (by omega) hin'⟩,q2 j (by omega) hin⟩
   ·intro b hI3
    refine⟨b,rfl,?_⟩;rw[hI3];constructor
    ·rintro⟨⟨q1,q2⟩,q3⟩
     refine⟨q1,fun i' j hi' hin'=>?_⟩;by_cases e:i'=i
     ·subst e; exact q3 j hin'.2.2 hin'
     ·exact q2 i' j (by omega) hin'
    ·rintro⟨q1,q2⟩
     exact⟨⟨q1,fun i' j hi' hin'=> q2 i' j (by omega) hin'⟩,fun j _ hin'=> q2 i j (by omega) hin'⟩
  ·intro b hI2
   refine⟨b,rfl,?_⟩;rw[hI2];constructor
   ·rintro⟨q1,q2⟩ k' i j hk' hin'
    by_cases e:k'=k
    ·subst e; exact q2 i j hin'.2.1 hin'
    ·exact q1 k' i j (by omega) hin'
   ·intro q
    exact⟨fun k' i j hk' hin'=> q k' i j (by omega) hin',fun i j _ hin'=> q k i j (by omega) hin'⟩
 ·intro b hI
  refine⟨b,rfl,?_⟩;rw[hI];constructor
  ·intro q k i j hin; exact q k i j hin.1 hin
  ·intro q k i j _ hin; exact q k i j hin
theorem km{x:qc}(hsm:qG x):jU (F41 x) (qx x):=by
 unfold F41;rcases(F42_tells hsm.c).case with⟨h1,hv⟩|⟨h1,hv⟩
 case inr=> rw[h1,ob,if_neg wD]; exact .of_false rfl fun h=> hv h.vc
 rw[h1,ob,if_pos rfl];by_cases c1:(x.L.length:Int)=x.C.D.length
 case neg=> rw[if_neg c1]; exact .of_false rfl fun h=> by have:=h.ll; omega
 rw[if_pos c1];obtain⟨t,g1,g2⟩:=F41_1_eq hsm (by omega);rw[g1,ob];rcases g2 with⟨rfl,g2⟩|⟨rfl,g2⟩
 case inr=> exact .of_false rfl fun h=> g2 h.lv
 have hl:LevC x:=⟨by omega,g2⟩;have hml:=hv.ml;have hdl:=hv.dl;have hT:=F85_and (ms:=x.C.M) (f:=fun n r p v s=> F84 n r p v s x) (LevAt x) hsm.c.m hsm.c.r (by
  intro k i j b hin;obtain⟨b1,b2,b3⟩:=bounds hv hl hin;have hk:=hin.1;unfold F84;cases b with
  |false=> rw[if_neg wD]; exact⟨false,rfl,by simp⟩
  |true=>
   rw[if_pos rfl];by_cases h0:zh x.C.M k i j=0
   ·rw[if_pos h0]; exact⟨true,rfl,by simp[LevAt,h0]⟩
   ·have e1:((k:Int)+1 - 1)=(k:Int):=by omega
    have e2:((k:Int)+1)=((k+1:Nat):Int):=by omega
    rw[if_neg h0,qn (by omega) (by omega),ob,e1,qk (show k < x.L.length by omega) [],ob,qk b2 0,ob,e2,qk b1 [],ob,qk b3 0,ob];exact⟨_,rfl,by simp only[decide_eq_true_eq,LevAt,h0,false_or,true_and]⟩)
 simp only;rcases hT.case with⟨k1,k2⟩|⟨k1,k2⟩
 ·rw[k1,ob]; exact .of_true rfl ⟨hl,hv,k2⟩
 ·rw[k1,ob]; exact .of_false rfl fun h=> k2 h.le
abbrev LongL{α:Type}(L:α→Prop)(l:List α):Prop:=l.length≤9223372036854775807∧∀y∈l,L y
structure SmallT (ms:L3):Prop where
 m:ms.length≤1048576
 r:∀m∈ms,m.length≤1048576∧∀r∈m,r.length≤1048576
def TabM(x:qe)(ms:L3)(k:Nat):Prop:=TableOK x.P (x.D.getD (k+1) 0) (x.D.getD k 0) (ms.getD k [])
structure MapsOK (x:qe) (ms:L3):Prop where
 v:zp x
 l:ms.length=x.M.length
 t:∀k,k < ms.length→TabM x ms k
abbrev T3s:=L3
structure Shp (s u:T3s):Prop where
 l:s.length=u.length
 t:∀k,k < u.length→(s.getD k []).length=(u.getD k []).length
 r:∀k,k < u.length→∀i,i < (u.getD k []).length→((s.getD k []).getD i []).length=((u.getD k []).getD i []).length
theorem Shp.refl(s:T3s):Shp s s:=⟨rfl,fun _ _=> rfl,fun _ _ _ _=> rfl⟩
theorem Shp.trans{a b c:T3s}(h:Shp a b)(k:Shp b c):Shp a c:=
 ⟨h.l.trans k.l,fun n hn=>(h.t n (by rw[k.l]; exact hn)).trans (k.t n hn),fun n hn i hi=>(h.r n (by rw[k.l]; exact hn) i (by rw[k.t n hn]; exact hi)).trans (k.r n hn i hi)⟩
theorem Shp.symm{a b:T3s}(h:Shp a b):Shp b a:=
 ⟨h.l.symm,fun n hn=>(h.t n (by rw[←h.l]; exact hn)).symm,fun n hn i hi=>(h.r n (by rw[←h.l]; exact hn) i (by rw[←h.t n (by rw[←h.l]; exact hn)]; exact hi)).symm⟩
theorem Shp.inT{s t:T3s}(h:Shp s t){k i j:Nat}(q:InT t k i j):InT s k i j:=by
 obtain⟨q1,q2,q3⟩:=q;exact⟨by rw[h.l]; exact q1,by rw[h.t k q1]; exact q2,by rw[h.r k q1 i q2]; exact q3⟩
theorem getD_ext{α:Type}{l l':List α}(d:α)(h:l.length=l'.length)(hv:∀k,k < l'.length→l.getD k d=l'.getD k d):l=l':=by
 apply yX h;intro k h1 h2;have:=hv k h2;simpa[h1,h2]using this
theorem Shp.eq{s t:T3s}(h:Shp s t)(hv:∀k i j,InT t k i j→zh s k i j=zh t k i j):s=t:=by
 refine getD_ext [] h.l fun k hk=> getD_ext [] (h.t k hk) fun i hi=> getD_ext 0 (h.r k hk i hi) fun j hj=> hv k i j ⟨hk,hi,hj⟩
def put3(s:T3s)(k i j:Nat)(z:Int):T3s:=s.set k ((s.getD k []).set i (((s.getD k []).getD i []).set j z))
theorem getD_set{α:Type}{l:List α}{k k':Nat}{x d:α}(hk:k < l.length):(l.set k x).getD k' d=if k'=k then x else l.getD k' d:=by
 rw[gC,gN];by_cases e:k=k'
 ·subst e; rw[if_pos rfl,if_pos hk,if_pos rfl]; rfl
 ·rw[if_neg e,if_neg (fun q=> e q.symm),gC]
theorem put3_shp{s:T3s}{k i j:Nat}(h:InT s k i j)(z:Int):Shp (put3 s k i j z) s:=by
 obtain⟨h1,h2,h3⟩:=h;refine⟨by simp[put3],fun n hn=>?_,fun n hn m hm=>?_⟩
 ·unfold put3; rw[getD_set h1]; split
  ·rename_i e; subst e; simp
  ·rfl
 ·unfold put3; rw[getD_set h1]; split
  ·rename_i e; subst e
   rw[getD_set h2]; split
   ·rename_i e; subst e; simp
   ·rfl
  ·rfl
theorem put3_at{s:T3s}{k i j:Nat}(h:InT s k i j)(z:Int)(k' i' j':Nat):zh (put3 s k i j z) k' i' j'=if k'=k∧i'=i∧j'=j then z else zh s k' i' j':=by
 obtain⟨h1,h2,h3⟩:=h;unfold zh put3;rw[getD_set h1];by_cases e:k'=k
 ·subst e
  rw[if_pos rfl,getD_set h2];by_cases e:i'=i
  ·subst e
   rw[if_pos rfl,getD_set h3];by_cases e:j'=j
   ·subst e; simp
   ·rw[if_neg e,if_neg (by simp[e])]
  ·rw[if_neg e,if_neg (by simp[e])]
 ·rw[if_neg e,if_neg (by simp[e])]
def q0(p a b:Int):Int:=(a+b).tmod p
def q1(p a b:Int):Int:=((a+b).tmod p+p).tmod p
theorem q0_range{p a b:Int}(hp:2≤p∧p≤7)(ha:0≤a∧a < p)(hb:0≤b∧b < p):0≤q0 p a b∧q0 p a b < p:=by
 unfold q0;rw[vR (by omega)];exact⟨Int.emod_nonneg _ (by omega),Int.emod_lt_of_pos _ (by omega)⟩
theorem q1_eq{p a b:Int}(hp:2≤p∧p≤7)(ha:0≤a∧a < p)(hb:0≤b∧b < p):q1 p a b=q0 p a b:=by
 have h:=q0_range hp ha hb;unfold q0 at h;unfold q1 q0;rw[vR (show 0≤(a+b).tmod p+p by omega),Int.add_emod_right,vZ h.1 h.2]
theorem q1_zero{p b:Int}(hp:2≤p∧p≤7)(hb:0≤b∧b < p):q1 p 0 b=b:=by
 rw[q1_eq hp (by omega) hb];unfold q0;rw[Int.zero_add,vR hb.1,vZ hb.1 hb.2]
def Rng(p:Int)(s:T3s):Prop:=∀k i j,InT s k i j→0≤zh s k i j∧zh s k i j < p
theorem F75_eq{p:Int}(hp:2≤p∧p≤7){s:T3s}{k i j:Nat}{v:Int}(h:InT s k i j)(hk:k≤1048576)(ho:0≤zh s k i j∧zh s k i j < p)(hv:0≤v∧v < p):
  F75 p ((k:Int)+1) i j v s=some (put3 s k i j (q1 p (zh s k i j) v)):=by
 obtain⟨h1,h2,h3⟩:=h;have e1:((k:Int)+1 - 1)=(k:Int):=by omega
 have hq:=q0_range hp ho hv;have ho':zh s k i j=((s.getD k []).getD i []).getD j 0:=rfl;unfold q0 at hq;rw[ho']at hq ho;unfold F75;rw[qn (by omega) (by omega),ob,e1,qk h1 [],ob,qk h2 [],ob,qk h3 0,ob,qn (by omega) (by omega),ob,jE (by omega),ob,qn (by omega) (by omega),ob,jE (by omega),ob,za h3,ob,za h2,ob,za h1];rfl
def AT(q:Int→Int→Int)(s0 ms:T3s)(D:Nat→Nat→Nat→Prop)(s:T3s):Prop:=
 Shp s s0∧∀k i j,InT s0 k i j→(D k i j→zh s k i j=q (zh s0 k i j) (zh ms k i j))∧(¬D k i j→zh s k i j=zh s0 k i j)
theorem AT.imp{q:Int→Int→Int}{s0 ms:T3s}{D D':Nat→Nat→Nat→Prop}{s:T3s}(h:AT q s0 ms D s)(hd:∀k i j,InT s0 k i j→(D k i j↔D' k i j)):AT q s0 ms D' s:=
 ⟨h.1,fun k i j hin=>⟨fun d=>(h.2 k i j hin).1 ((hd k i j hin).2 d),fun d=>(h.2 k i j hin).2 fun x=> d ((hd k i j hin).1 x)⟩⟩
theorem AT.zero(q:Int→Int→Int)(s0 ms:T3s):AT q s0 ms (fun _ _ _=> False) s0:=⟨.refl _,fun k i j _=>⟨fun x=> x.elim,fun _=> rfl⟩⟩
theorem AT.step{q:Int→Int→Int}{s0 ms:T3s}{D D':Nat→Nat→Nat→Prop}{s:T3s}(h:AT q s0 ms D s){k i j:Nat}(hin:InT s0 k i j)(hn:¬D k i j)(hd:∀k' i' j',D' k' i' j'↔D k' i' j'∨(k'=k∧i'=i∧j'=j)):AT q s0 ms D' (put3 s k i j (q (zh s k i j) (zh ms k i j))):=by
 have hs:=h.1.inT hin;refine⟨(put3_shp hs _).trans h.1,fun k' i' j' hin'=>?_⟩;rw[put3_at hs];by_cases e:k'=k∧i'=i∧j'=j
 ·obtain⟨rfl,rfl,rfl⟩:=e
  rw[if_pos ⟨rfl,rfl,rfl⟩,(h.2 _ _ _ hin').2 hn];exact⟨fun _=> rfl,fun d=> absurd ((hd _ _ _).2 (.inr ⟨rfl,rfl,rfl⟩)) d⟩
 ·rw[if_neg e]
  refine⟨fun d=>(h.2 _ _ _ hin').1 (((hd _ _ _).1 d).resolve_right e),fun d=>(h.2 _ _ _ hin').2 fun x=> d ((hd _ _ _).2 (.inl x))⟩
theorem F85_add{p:Int}(hp:2≤p∧p≤7){s0 ms:T3s}(hs:SmallT ms)(hsh:Shp s0 ms)(h0:Rng p s0)(h1:Rng p ms):
  ∃r,F85 ms (fun n r pl v s=> F75 p n r pl v s) s0=some r∧AT (q1 p) s0 ms (fun _ _ _=> True) r:=by
 unfold F85;have hm:=hs.m;have hl1:ms.length < 4611686018427387904:=by omega
 refine qu (τ:=T3s) (σ:=T3s) ms.length rfl hl1 (fun n s=> AT (q1 p) s0 ms (fun k _ _=> k < n) s) _ ((AT.zero _ _ _).imp fun k i j _=> by simp) ?_ ?_
 ·intro k s hk hI
  left;rw[qk hk [],ob];have hmem:ms.getD k []∈ms:=qz hk [];have hmr:=hs.r _ hmem;have hl2:(ms.getD k []).length < 4611686018427387904:=by have:=hmr.1; omega
  suffices hx:∃t,forR 0 ((ms.getD k []).length:Int) _ _ s=some t∧AT (q1 p) s0 ms (fun k' _ _=> k' < k+1) t by
   obtain⟨t,g1,g2⟩:=hx;rw[g1,ob];exact⟨t,rfl,g2⟩
  refine qu (τ:=T3s) (σ:=T3s) (ms.getD k []).length rfl hl2 (fun n s=> AT (q1 p) s0 ms (fun k' i _=> k' < k∨(k'=k∧i < n)) s) _ (hI.imp fun k i j _=> by simp) ?_ ?_
  ·intro i s hi hI2
   left;rw[qk hi [],ob];have nE:(ms.getD k []).getD i []∈ms.getD k []:=qz hi [];have tA:((ms.getD k []).getD i []).length < 4611686018427387904:=by have:=hmr.2 _ nE; omega
   suffices hx:∃t,forR 0 (((ms.getD k []).getD i []).length:Int) _ _ s=some t∧AT (q1 p) s0 ms (fun k' i' _=> k' < k∨(k'=k∧i' < i+1)) t by
    obtain⟨t,g1,g2⟩:=hx;rw[g1,ob];exact⟨t,rfl,g2⟩
   refine qu (τ:=T3s) (σ:=T3s) ((ms.getD k []).getD i []).length rfl tA (fun n s=> AT (q1 p) s0 ms (fun k' i' j=> k' < k∨(k'=k∧(i' < i∨(i'=i∧j < n)))) s) _ (hI2.imp fun k i j _=> by simp) ?_ ?_
   ·intro j s hj hI3
    left;have hin:InT ms k i j:=⟨hk,hi,hj⟩;have oE:=hsh.inT hin;have hnd:¬(k < k∨(k=k∧(i < i∨(i=i∧j < j)))):=by omega
    have hold:=(hI3.2 k i j oE).2 hnd;rw[qk hj 0,ob,qn (by omega) (by omega),ob];have hv:=h1 k i j hin;have ho:=h0 k i j oE;have e:=F75_eq hp (v:=zh ms k i j) (hI3.1.inT oE) (by omega) (by rw[hold]; exact ho) hv;have e':F75 p ((k:Int)+1) i j (((ms.getD k []).getD i []).getD j 0) s=_:=e;refine⟨_,by rw[show(fun n r pl v s=> F75 p n r pl v s) ((k:Int)+1) (i:Int) (j:Int) (((ms.getD k []).getD i []).getD j 0) s=_ from e',ob],hI3.step oE hnd fun k' i' j'=> by omega⟩
   ·intro s hI3
    refine⟨s,rfl,hI3.imp fun k' i' j' hin'=>?_⟩;constructor
    ·omega
    ·intro q
     by_cases e:k'=k∧i'=i
     ·obtain⟨rfl,rfl⟩:=e
      have hj:=(hsh.symm.inT hin').2.2;omega
     ·omega
  ·intro s hI2
   refine⟨s,rfl,hI2.imp fun k' i' j' hin'=>?_⟩;constructor
   ·omega
   ·intro q
    by_cases e:k'=k
    ·subst e
     have hj:=(hsh.symm.inT hin').2.1;omega
    ·omega
 ·intro s hI
  refine⟨s,rfl,hI.imp fun k i j hin=>?_⟩;have:=(hsh.symm.inT hin).1;simp[this]
theorem cpy_loop{α:Type}{l:List α}{B:Int→List α→Option (List α⊕List α)}{D:Int→List α→Option (List α)}(hl:l.length≤1048576)
  (hB:∀ (i:Nat) (hi:i < l.length) (s:List α),s.length=i→B i s=some (.inl (s++[l[i]]))) (hD:∀i s,D i s=some s):forR 0 (l.length:Int) B D []=some l:=by
 have hlen:l.length < 4611686018427387904:=by omega
 obtain⟨t,h1,h2⟩:=qu (B:=B) (D:=D) l.length rfl hlen (fun i s=> s=l.take i) (fun t=> t=l) (s:=[]) (by simp) (by
  rintro i s hi rfl;left;refine⟨_,hB i hi _ (by simp; omega),?_⟩;rw[wW]) (by
  rintro s rfl;exact⟨_,hD _ _,by simp⟩)
 rw[h1,h2]
theorem app_nil{b:Nat}{α:Type}{l:List α}(h:l.length*b≤1099511627776)(h2:l.length≤1099511627776):app b [] l=some l:=by
 rw[qJ (by simpa using h) (by simpa using h2)]; rfl
theorem F94_eq{l:L1}(h:l.length≤1048576):F94 l=some l:=by
 unfold F94; rw[app_nil (by omega) (by omega),ob]
theorem F96_eq{l:L1}(h:l.length≤1048576):F96 l=some l:=by
 unfold F96; rw[app_nil (by omega) (by omega)]
theorem F95_eq{l:aJ}(h:l.length≤1048576)(h2:∀r∈l,r.length≤1048576):F95 l=some l:=by
 unfold F95;rw[cpy_loop (B:=F95_1_B l) (D:=F95_1_D l) h (fun i hi s hs=> by
  unfold F95_1_B;rw[qr hi,ob,F94_eq (h2 _ (wC hi)),ob,qJ (by simp; omega) (by simp; omega),ob]) (fun i s=> rfl),ob]
theorem F55_eq{x:qe}(h:zx x):F55 x=some x:=by
 have hm:=h.m;have hlen:x.M.length < 4611686018427387904:=by omega
 unfold F55;rw[F94_eq h.d,ob];obtain⟨t,h1,h2⟩:=qu (B:=F55_1_B x) (D:=F55_1_D x) x.M.length rfl hlen (fun i s=> s=(x.M.take i,x.P,x.D)) (fun t=> t=(x.M,x.P,x.D)) (s:=([],x.P,x.D)) (by simp) (by
  rintro i s hi rfl;left;have hr:=h.r _ (wC hi);have hlt:(x.M.take i).length=i:=by simp; omega
  refine⟨(x.M.take (i+1),x.P,x.D),?_,rfl⟩;unfold F55_1_B;simp only;rw[qr hi,ob,F95_eq hr.1 hr.2,ob,qJ (by simp; omega) (by simp; omega),ob,wW]) (by
  rintro s rfl;exact⟨_,rfl,by simp⟩)
 rw[h1,h2,ob]
theorem TabM.len{x:qe}{ms:T3s}{k:Nat}(h:TabM x ms k):((ms.getD k []).length:Int)=x.D.getD (k+1) 0:=h.1
theorem MapsOK.self{x:qe}(h:zp x):MapsOK x x.M:=⟨h,rfl,fun k hk=> h.tab k hk⟩
theorem MapsOK.rng{x:qe}{ms:T3s}(h:MapsOK x ms):Rng x.P ms:=by
 rintro k i j ⟨h1,h2,h3⟩;exact((h.t k h1).2 _ (qz h2 [])).2 _ (qz h3 0)
theorem MapsOK.shp{x:qe}{ms ns:T3s}(h:MapsOK x ms)(k:MapsOK x ns):Shp ms ns:=by
 have e:ms.length=ns.length:=h.l.trans k.l.symm;refine⟨e,fun n hn=>?_,fun n hn i hi=>?_⟩
 ·have a:=(h.t n (by omega)).1
  have b:=(k.t n hn).1;omega
 ·have a:=(h.t n (by omega)).1
  have b:=(k.t n hn).1;have c:=((h.t n (by omega)).2 _ (qz (show i < (ms.getD n []).length by omega) [])).1;have d:=((k.t n hn).2 _ (qz hi [])).1;omega
def zT(dims:L1)(k:Nat):aJ:=List.replicate (dims.getD (k+1) 0).toNat (List.replicate (dims.getD k 0).toNat (0:Int))
def zM(dims:L1):T3s:=(List.range (dims.length - 1)).map (zT dims)
theorem F74_2_eq{dims:L1}(o:T3s)(a b:Int)(c:L1){n:Nat}(h1:1≤n)(hn:n < dims.length)(hs:dims.length≤1048576)(hd:∀d∈dims,0≤d∧d≤8):
  forR 0 (dims.getD n 0) (F74_2_B dims o a c n b) (F74_2_D dims o a c n b) []=some (zT dims (n - 1)):=by
 have q:=hd _ (qz hn 0);have q':=hd _ (qz (show n - 1 < dims.length by omega) 0);have e1:((n:Int) - 1)=((n - 1:Nat):Int):=by omega
 obtain⟨t,g1,g2⟩:=qu (B:=F74_2_B dims o a c n b) (D:=F74_2_D dims o a c n b) (hi:=dims.getD n 0) (dims.getD n 0).toNat (by omega) (by omega) (fun j s=> s=List.replicate j (List.replicate (dims.getD (n - 1) 0).toNat (0:Int))) (fun t=> t=zT dims (n - 1)) (s:=[]) (by simp) (by
  rintro j s hj rfl;left;refine⟨List.replicate (j+1) (List.replicate (dims.getD (n - 1) 0).toNat (0:Int)),?_,rfl⟩;unfold F74_2_B;rw[qn (by omega) (by omega),ob,e1,qk (show n - 1 < dims.length by omega) 0,ob,mkL_ok (dims.getD (n - 1) 0).toNat (by omega) (by omega) (by omega),ob,qJ (by simp; omega) (by simp; omega),ob,List.replicate_succ']) (by
  rintro s rfl;refine⟨_,rfl,?_⟩;unfold zT;rw[show n - 1+1=n by omega])
 rw[g1,g2]
theorem F74_eq{p:Int}{dims:L1}(h1:1≤dims.length)(hs:dims.length≤1048576)(hd:∀d∈dims,0≤d∧d≤8):F74 p dims=some ⟨p,dims,zM dims⟩:=by
 have hlen:dims.length < 4611686018427387904:=by omega
 unfold F74;obtain⟨t,g1,g2⟩:=forR_from (B:=F74_1_B dims) (D:=F74_1_D dims) 1 dims.length rfl rfl h1 hlen (fun n s=> 1≤n∧s=((List.range (n - 1)).map (zT dims),p,dims)) (fun t=> t=(zM dims,p,dims)) (s:=([],p,dims)) ⟨wE _,rfl⟩ (by
  rintro n s hn ⟨hn1,rfl⟩;left;refine⟨((List.range n).map (zT dims),p,dims),?_,by omega,rfl⟩;unfold F74_1_B;simp only;rw[qk hn 0,ob,F74_2_eq _ _ _ _ hn1 hn hs hd,ob,qJ (by simp; omega) (by simp; omega),ob];obtain⟨m,rfl⟩:∃m,n=m+1:=⟨n - 1,by omega⟩;rw[uJ,yI]; rfl) (by
  rintro s ⟨_,rfl⟩;exact⟨_,rfl,rfl⟩)
 have pL:forR 1 (dims.length:Int) (F74_1_B dims) (F74_1_D dims) ([],p,dims)=some t:=g1;rw[pL,g2,ob]
theorem zM_at{dims:L1}{k:Nat}(hk:k < dims.length - 1):(zM dims).getD k []=zT dims k:=by
 unfold zM;rw[gC,gF,gR hk]; rfl
theorem zM_shp{x:qe}(h:zp x):Shp (zM x.D) x.M:=by
 have hml:=h.ml;have hdl:=h.dl;refine⟨by simp[zM]; omega,fun k hk=>?_,fun k hk i hi=>?_⟩
 ·rw[zM_at (by omega)]
  have a:=(h.tab k hk).1;unfold zT;rw[yB]; omega
 ·rw[zM_at (by omega)]
  have a:=(h.tab k hk).1;have d:=((h.tab k hk).2 _ (qz hi [])).1;have hlt:i < (zT x.D k).length:=by unfold zT; rw[yB]; omega
  have e:(zT x.D k).getD i []=List.replicate (x.D.getD k 0).toNat (0:Int):=by
   unfold zT at hlt ⊢;rw[gC,gE hlt,List.getElem_replicate]; rfl
  rw[e,yB]; omega
theorem zM_num{x:qe}(h:zp x){k i j:Nat}(hin:InT (zM x.D) k i j):zh (zM x.D) k i j=0:=by
 obtain⟨h1,h2,h3⟩:=hin;have hk:k < x.D.length - 1:=by simpa[zM]using h1
 rw[zM_at hk]at h2 h3;unfold zh;rw[zM_at hk];unfold zT at h2 h3 ⊢;have e:(List.replicate (x.D.getD (k+1) 0).toNat (List.replicate (x.D.getD k 0).toNat (0:Int))).getD i []=List.replicate (x.D.getD k 0).toNat (0:Int):=by
  rw[gC,gE h2,List.getElem_replicate]; rfl
 rw[e]at h3 ⊢;rw[gC,gE h3,List.getElem_replicate]; rfl
theorem F57_eq{x:qe}(hx:zx x)(hv:zp x):F57 x=some x:=by
 have hp:=hv.p.range;have hok:=MapsOK.self hv;unfold F57;rw[F96_eq hx.d,ob,F74_eq (by have:=hv.dl; omega) hx.d hv.dims,ob];have hz:Rng x.P (zM x.D):=fun k i j hin=> by rw[zM_num hv hin]; omega
 obtain⟨r,g1,g2,g3⟩:=F85_add hp (s0:=zM x.D) (ms:=x.M) ⟨hx.m,hx.r⟩ (zM_shp hv) hz hok.rng;have hr:r=x.M:=(g2.trans (zM_shp hv)).eq fun k i j hin=> by
  have oE:=(zM_shp hv).inT hin;rw[(g3 k i j oE).1 trivial,zM_num hv oE];exact q1_zero hp (hok.rng k i j hin)
 subst hr;rw[g1,ob]
inductive Ch {α:Type} (R:α→Int→Int→Prop):List α→Int→Int→Prop
 |nil (k:Int):Ch R [] k k
 |cons {a:α} {l:List α} {k j m:Int}:R a k j→Ch R l j m→Ch R (a::l) k m
theorem Ch.snoc{α:Type}{R:α→Int→Int→Prop}{a:α}{j m:Int}(h:R a j m):∀ {l:List α} {k:Int},Ch R l k j→Ch R (l++[a]) k m
 |_,_,.nil _=> .cons h (.nil _)
 |_,_,.cons p q=> .cons p (Ch.snoc h q)
theorem Ch.le{α:Type}{R:α→Int→Int→Prop}(hR:∀a s j,R a s j→s≤j):∀ {l:List α} {k m:Int},Ch R l k m→k≤m
 |_,_,_,.nil _=> vV _
 |_,_,_,.cons p q=> Int.le_trans (hR _ _ _ p) (Ch.le hR q)
theorem zx.zero:zx (⟨0,[],[]⟩:qe):=⟨by simp,by simp,by simp⟩
theorem qG.zero:qG (⟨⟨0,[],[]⟩,[]⟩:qc):=⟨.zero,by simp,by simp⟩
def flatL(q:Int)(dims:L1):aJ:=dims.map fun d=> List.replicate d.toNat q
theorem F23_2_eq{x:qe}{q:Int}(o:aJ)(a:Int)(b:L1)(c:L3){n:Nat}(hn:n < x.D.length)(hd:0≤x.D.getD n 0∧x.D.getD n 0≤8):
  qY (F23_2_S x q o a b c n) ([],0)=some (List.replicate (x.D.getD n 0).toNat q):=by
 obtain⟨t,h1,h2⟩:=qV (S:=F23_2_S x q o a b c n) (fun s=>(8 - s.2).toNat) (fun s=> 0≤s.2∧s.2≤x.D.getD n 0∧s.1=List.replicate s.2.toNat q) (fun t=> t=List.replicate (x.D.getD n 0).toNat q) (s:=([],0)) ⟨vV _,hd.1,rfl⟩ (by
  rintro⟨l,j⟩ ⟨p1,p2,p3⟩;simp only at p1 p2 p3;subst p3;unfold F23_2_S;simp only;rw[qk hn 0,ob];by_cases hj:j < x.D.getD n 0
  ·left
   rw[if_pos hj,qJ (by simp; omega) (by simp; omega),ob,qn (by omega) (by omega),ob];refine⟨_,rfl,⟨by simp only; omega,by simp only; omega,?_⟩,by simp only; omega⟩;simp only;rw[show(j+1).toNat=j.toNat+1 from by omega,List.replicate_succ']
  ·right
   rw[if_neg hj];have:j=x.D.getD n 0:=by omega
   subst this;exact⟨_,rfl,rfl⟩)
 rw[h1,h2]
theorem flatL_take{q:Int}{dims:L1}{i:Nat}(hi:i < dims.length):(flatL q dims).take i++[List.replicate (dims.getD i 0).toNat q]=(flatL q dims).take (i+1):=by
 have hl:i < (flatL q dims).length:=by simpa[flatL]using hi
 rw[←wW hl]
 congr 2
 simp[flatL,hi]
theorem tmod_pos{a p:Int}(h:0≤a):a.tmod p=a% p:=vR h
theorem tmod_cg{a p:Int}:Cg p (a.tmod p) a:=⟨-(a.tdiv p),by have:=Int.tmod_add_mul_tdiv a p; grind⟩
theorem F127_eq{p x:Int}(hp:2≤p∧p≤7):F127 p x=some (x% p):=by
 have h1:=uA x (show 0 < p by omega);have h2: -p < x.tmod p:=by
  have h3:=uA (-x) (show 0 < p by omega);rw[Int.neg_tmod]at h3; omega
 unfold F127;rw[jE (by omega),ob,qn (by omega) (by omega),ob,jE (by omega),ob,tmod_pos (by omega)]
 congr 1
 exact Cg.emod ((tmod_cg.add (Cg.refl p p)).trans ⟨1,by grind⟩)
theorem idx_loop{α:Type}{l:List α}(g:Nat→α→α){B:Int→List α→Option (List α⊕List α)}{D:Int→List α→Option (List α)}(hl:l.length≤1048576)
  (hB:∀ (i:Nat) (hi:i < l.length) (s:List α),s.length=l.length→(∀k,s[k]? =if k < i then(l[k]?).map (g k)else l[k]?)→B i s=some (.inl (s.set i (g i l[i])))) (hD:∀i s,D i s=some s):forR 0 (l.length:Int) B D l=some (l.mapIdx g):=by
 obtain⟨t,h1,h2⟩:=qu (B:=B) (D:=D) l.length rfl (by omega) (fun i s=> s.length=l.length∧∀k,s[k]? =if k < i then(l[k]?).map (g k)else l[k]?) (fun t=> t=l.mapIdx g) (s:=l) ⟨rfl,fun k=> by simp⟩ (by
  rintro i s hi ⟨p1,p2⟩;left;refine⟨_,hB i hi s p1 p2,by rw[yD]; exact p1,fun k=>?_⟩;rw[gN];by_cases e:i=k
  ·subst e; rw[if_pos rfl,if_pos (by omega),if_pos (by omega)]; simp[hi]
  ·rw[if_neg e,p2 k]
   by_cases q:k < i
   ·rw[if_pos q,if_pos (by omega)]
   ·rw[if_neg q,if_neg (by omega)]) (by
  rintro s ⟨p1,p2⟩;refine⟨s,hD _ _,?_⟩;apply List.ext_getElem?;intro k;rw[p2 k,List.getElem?_mapIdx];by_cases q:k < l.length
  ·rw[if_pos q]
  ·rw[if_neg q,gG (by omega)]; rfl)
 rw[h1,h2]
theorem jZ{v:L1}{j:Nat}(h:j < v.length):getI v (j:Int)=some (nth v j):=by rw[qr h,zd h]
theorem rng_mul{p a b:Int}(hp:2≤p∧p≤7)(ha:0≤a∧a < p)(hb:0≤b∧b < p):0≤a*b∧a*b≤49:=by
 refine⟨Int.mul_nonneg ha.1 hb.1,?_⟩;have:=Int.mul_le_mul (show a≤7 by omega) (show b≤7 by omega) hb.1 (by decide);omega
theorem scl_loop{p k:Int}{w:Nat}(hp:2≤p∧p≤7)(hk:0≤k∧k < p){v:L1}(hv:qP p w v)(hw:w≤1048576){B:Int→L1→Option (L1⊕L1)}{D:Int→L1→Option L1}
  (hB:∀i row,B i row=(getI row i).bind fun x=>(chk (x*k)).bind fun m=>(remI m p).bind fun z=>(setI row i z).bind fun r=> some (.inl r)) (hD:∀i s,D i s=some s):forR 0 (v.length:Int) B D v=some (scl p v k):=by
 have hl:=hv.len;rw[idx_loop (fun _ x=> x*k% p) (by omega) (fun i hi s hs hk'=>?_) hD]
 ·congr 1
  apply yX <;> simp[scl]
 ·have h1:s[i]? =v[i]?:=by rw[hk' i,if_neg (Nat.lt_irrefl _)]
  have h2:s[i]'(by omega)=v[i]:=by
   have:=h1;rw[gE (by omega),gE hi]at this;exact wA this
  have hr:=hv.rng i (by omega);rw[zd hi]at hr;have hm:=rng_mul hp hr hk;rw[hB,qr (show i < s.length by omega),ob,h2,qn (by omega) (by omega),ob,jE (by omega),ob,za (by omega),ob,tmod_pos hm.1]
theorem F136_eq{p k:Int}{w:Nat}(hp:2≤p∧p≤7)(hk:0≤k∧k < p){v u:L1}(hv:qP p w v)(hu:qP p w u)(hw:w≤1048576):F136 p v u k=some (subv p v u k):=by
 have hl:=hv.len;have hul:=hu.len;have hsl:(subv p v u k).length=w:=by simp[subv,hl,hul]
 unfold F136;obtain⟨t,g1,g2⟩:=qu (B:=F136_1_B p v u k) (D:=F136_1_D p v u k) v.length rfl (by omega) (fun i s=> s=(subv p v u k).take i) (fun t=> t=subv p v u k) (s:=[]) (by simp) (by
  rintro i s hi rfl;left;have hiw:i < w:=by omega
  have h1:=hv.rng i hiw;have h2:=hu.rng i hiw;have hm:=rng_mul hp hk h2;refine⟨(subv p v u k).take (i+1),?_,rfl⟩;unfold F136_1_B;rw[jZ hi,ob,jZ (by omega),ob,qn (by omega) (by omega),ob,qn (by omega) (by omega),ob,F127_eq hp,ob,qJ (by simp; omega) (by simp; omega),ob]
  congr 2
  rw[←wW (show i < (subv p v u k).length by omega)]
  congr 2
  have:=zK (p:=p) (k:=k) hl hul hiw;rw[zd (by omega)]at this;exact this.symm) (by
  rintro s rfl;refine⟨_,rfl,?_⟩;rw[wR (by omega)])
 rw[g1,ob,g2]
theorem F81_ld{r:L1}(hl:r.length≤1048576):F81 r=some (if ld r < r.length then(ld r:Int)else -1):=by
 unfold F81;obtain⟨t,g1,g2⟩:=qu (B:=F81_1_B r) (D:=F81_1_D r) r.length rfl (by omega) (fun i _=> i≤ld r) (fun t=>(t= .inl ()∧r.length≤ld r)∨(t= .inr (ld r:Int)∧ld r < r.length)) (s:=()) (vS _) (by
  rintro i _ hi hI;unfold F81_1_B;rw[jZ hi,ob];by_cases h:nth r i=0
  ·left
   rw[if_pos h];refine⟨(),rfl,?_⟩;rcases vB i (ld r)with q|q
   ·exact q
   ·have:i=ld r:=by omega
    subst this;exact absurd h (ld_ne hi)
  ·right
   rw[if_neg h];refine⟨_,rfl,.inr ?_⟩;have:ld r=i:=by
    rcases vB i (ld r)with q|q
    ·exact absurd (zL q) h
    ·omega
   rw[this]; exact⟨rfl,hi⟩) (by
  rintro _ hI;exact⟨_,rfl,.inl ⟨rfl,hI⟩⟩)
 rw[g1,ob];rcases g2 with⟨rfl,h⟩|⟨rfl,h⟩
 ·rw[if_neg (by omega)]
 ·rw[if_pos h]
theorem inv_ex{p x:Int}(hp:IsP p)(h1:1≤x)(h2:x < p):∃m,1≤m∧m < p∧m*x% p=1:=by
 unfold IsP at hp;rcases hp with rfl|rfl|rfl|rfl
 ·obtain rfl:x=1:=by omega
  exact⟨1,by decide⟩
 ·have:x=1∨x=2:=by omega
  rcases this with rfl|rfl
  ·exact⟨1,by decide⟩
  ·exact⟨2,by decide⟩
 ·have:x=1∨x=2∨x=3∨x=4:=by omega
  rcases this with rfl|rfl|rfl|rfl
  ·exact⟨1,by decide⟩
  ·exact⟨3,by decide⟩
  ·exact⟨2,by decide⟩
  ·exact⟨4,by decide⟩
 ·have:x=1∨x=2∨x=3∨x=4∨x=5∨x=6:=by omega
  rcases this with rfl|rfl|rfl|rfl|rfl|rfl
  ·exact⟨1,by decide⟩
  ·exact⟨4,by decide⟩
  ·exact⟨5,by decide⟩
  ·exact⟨2,by decide⟩
  ·exact⟨3,by decide⟩
  ·exact⟨6,by decide⟩
theorem cg_one{p a:Int}(hp:2≤p∧p≤7)(h:a% p=1):Cg p a 1:=by
 have:=(Cg.mod p a).symm
 rwa[h]at this
theorem F135_eq{p x:Int}(hp:IsP p)(h1:1≤x)(h2:x < p):∃k,F135 p x=some k∧0≤k∧k < p∧Cg p (x*k) 1:=by
 have hr:=hp.range;obtain⟨m,m1,m2,m3⟩:=inv_ex hp h1 h2;obtain⟨n,hn⟩:∃n:Nat,p=n:=⟨p.toNat,by omega⟩;obtain⟨t,g1,k,rfl,g2,g3,g4⟩:=forR_from (B:=F135_1_B p x) (D:=F135_1_D p x) (lo:=1) (hi:=p) 1 n rfl hn (by omega) (by omega) (fun i _=> 1≤i∧∀j:Int,1≤j→j < i→j*x% p≠1) (fun t=>∃k:Int,t= .inr k∧0≤k∧k < p∧Cg p (x*k) 1) (s:=()) ⟨wE _,fun j a b=> by omega⟩ (by
  rintro i _ hi ⟨h0,hI⟩;unfold F135_1_B;have hm:=rng_mul hr (show 0≤(i:Int)∧(i:Int) < p by omega) (show 0≤x∧x < p by omega);rw[F127_eq hr,ob,vZ (show 0≤x by omega) h2,qn (by omega) (by omega),ob,jE (by omega),ob,tmod_pos hm.1];by_cases h:(i:Int)*x% p=1
  ·right
   rw[if_pos h];exact⟨_,rfl,_,rfl,by omega,by omega,by rw[Int.mul_comm]; exact cg_one hr h⟩
  ·left
   rw[if_neg h];refine⟨(),rfl,by omega,fun j a b=>?_⟩;by_cases e:j=i
   ·subst e; exact h
   ·exact hI j a (by omega)) (by
  rintro _ ⟨h0,hI⟩;exact absurd m3 (hI m m1 (by omega)))
 unfold F135;rw[g1,ob];exact⟨k,rfl,g2,g3,g4⟩
theorem F138_eq{p x:Int}(hp:IsP p)(h1:1≤x)(h2:x < p):∃k,F138 p x=some k∧0≤k∧k < p∧Cg p (x*k) 1:=by
 have hr:=hp.range;obtain⟨m,m1,m2,m3⟩:=inv_ex hp h1 h2;obtain⟨t,g1,g2,g3,g4⟩:=qV (S:=F138_1_S p x) (fun v=>(m - v).toNat) (fun v=> 1≤v∧v≤m) (fun t=> 0≤t∧t < p∧Cg p (x*t) 1) (s:=1) ⟨by decide,m1⟩ (by
  rintro v ⟨v1,v2⟩;unfold F138_1_S;have hm:=rng_mul hr (show 0≤v∧v < p by omega) (show 0≤x∧x < p by omega);rw[qn (by omega) (by omega),ob,jE (by omega),ob,tmod_pos hm.1];by_cases h:v*x% p=1
  ·right
   rw[if_pos h];exact⟨_,rfl,by omega,by omega,by rw[Int.mul_comm]; exact cg_one hr h⟩
  ·left
   have hne:v≠m:=fun e=> by rw[e]at h; exact h m3
   rw[if_neg h,qn (by omega) (by omega),ob];exact⟨_,rfl,⟨by omega,by omega⟩,by omega⟩)
 unfold F138;rw[g1,ob];exact⟨t,rfl,g2,g3,g4⟩
theorem F139_eq{p k:Int}{w:Nat}(hp:2≤p∧p≤7)(hk:0≤k∧k < p){r o:L1}(hr:qP p w r)(ho:qP p w o)(hw:w≤1048576):F139 r o p k=some (subv p r o k):=by
 have hl:=hr.len;have hol:=ho.len;unfold F139;rw[show(o.length:Int)=(r.length:Int) by omega,idx_loop (l:=r) (B:=F139_1_B o p k) (D:=F139_1_D) (fun i x=>(x - k*nth o i)% p) (by omega) (fun i hi s hs hk'=>?_) (fun i s=> rfl)]
 ·congr 1
  have hsl:(subv p r o k).length=w:=by simp[subv,hl,hol]
  apply yX (by simp[hl,hsl]);intro i h1 h2;have hi:i < w:=by omega
  have:=zK (p:=p) (k:=k) hl hol hi;rw[zd h2,zd (show i < r.length by omega)]at this;rw[this]; simp
 ·have h1:s[i]? =r[i]?:=by rw[hk' i,if_neg (Nat.lt_irrefl _)]
  have h2:s[i]'(by omega)=r[i]:=by
   have:=h1;rw[gE (by omega),gE hi]at this;exact wA this
  have a1:=hr.rng i (by omega);rw[zd hi]at a1;have a2:=ho.rng i (by omega);have hm:0≤(p - k)*nth o i∧(p - k)*nth o i≤49:=by
   refine⟨Int.mul_nonneg (by omega) a2.1,?_⟩;have:=Int.mul_le_mul (show p - k≤7 by omega) (show nth o i≤7 by omega) a2.1 (by decide);omega
  unfold F139_1_B;rw[jZ (by omega),ob,qr (show i < s.length by omega),ob,h2,qn (by omega) (by omega),ob,qn (by omega) (by omega),ob,qn (by omega) (by omega),ob,jE (by omega),ob,za (by omega),ob,tmod_pos (by omega)]
  congr 3
  exact Cg.emod ⟨nth o i,by grind⟩
theorem F134_eq{p:Int}{w:Nat}(hp:2≤p∧p≤7){R:aJ}(hR:Red p w R){v:L1}(hv:qP p w v)(hw:w≤1048576)(hn:R.length≤1048576):F134 p R v=some (rest p R v):=by
 have aK:0 < p:=by omega
 unfold F134;rw[F94_eq (by rw[hv.len]; exact hw),ob];have key:∀i,i≤R.length→qP p w (rest p (R.take i) v):=fun i _=> jY aK (fun r hr=> hR.ok r (wP hr)) hv;obtain⟨t,g1,g2⟩:=qu (B:=F134_1_B p R) (D:=F134_1_D p R) R.length rfl (by omega) (fun i s=> s=rest p (R.take i) v) (fun t=> t=rest p R v) (s:=v) rfl (by
  rintro i s hi rfl;left;refine⟨_,?_,rfl⟩;have hk:=key i (by omega);have hm:=wC hi;have hok:=hR.ok _ hm;have hone:=hR.one _ hm;unfold F134_1_B;rw[qr hi,ob,F81_ld (by rw[hok.len]; exact hw),if_pos (by rw[hok.len]; exact hone.1),ob,jZ (by rw[hk.len]; exact hone.1),ob,F136_eq hp (hk.rng _ hone.1) hk hok hw,ob]
  congr 2
  rw[←wW hi];unfold rest;rw[List.foldl_append]; rfl) (by
  rintro s rfl;exact⟨_,rfl,by rw[vH]⟩)
 rw[g1,ob,g2]
theorem ins_cons{p:Int}{own:L1}{a:Nat}{o:L1}{out:aJ}:ins p own a (o::out)=if a < ld o then own::insF p own a o::out.map (insF p own a)else insF p own a o::ins p own a out:=rfl
theorem F131_3_eq{p:Int}{w a:Nat}(hp:2≤p∧p≤7){out:aJ}{own:L1}(hR:Red p w out)(n:New p w out own a)(hw:w≤1048576)(hn:out.length≤1000000):
  ∃nx put,forR 0 (out.length:Int) (F131_3_B p out own a) F131_3_D ([],false)=some (nx,put)∧(if put=true then nx else nx++[own])=ins p own a out∧nx.length≤2000000:=by
 obtain⟨t,g1,g2,g3⟩:=qu (B:=F131_3_B p out own a) (D:=F131_3_D) out.length rfl (by omega) (fun i s=> s.1.length≤2*i∧(s.2=true→s.1++(out.drop i).map (insF p own a)=ins p own a out)∧(s.2=false→s.1++ins p own a (out.drop i)=ins p own a out))
  (fun t=>(if t.2=true then t.1 else t.1++[own])=ins p own a out∧t.1.length≤2000000) (s:=([],false)) ⟨by simp,by simp,by simp⟩ (by
  rintro i ⟨nx,put⟩ hi ⟨p1,p2,p3⟩;simp only at p1 p2 p3;left;have hm:=wC hi;have hok:=hR.ok _ hm;have hone:=hR.one _ hm;have hr:=hok.rng a n.lt;have hq:F136 p out[i] own (nth out[i] a)=some (insF p own a out[i]):=F136_eq hp hr hok n.ok hw;rw[yY hi]at p2 p3;unfold F131_3_B F131_3_C;simp only;cases put with
  |true=>
   have e:=p2 rfl;rw[if_pos rfl,ob,if_neg wD,ob,qr hi,ob,jZ (by rw[hok.len]; exact n.lt),ob,hq,ob,qJ (by simp; omega) (by simp; omega),ob];exact⟨_,rfl,by simp; omega,fun _=> by rw[←e]; simp only[vE,wO,vU,vN],fun h=> by cases h⟩
  |false=>
   have e:=p3 rfl;rw[if_neg wD,qr hi,ob,F81_ld (by rw[hok.len]; exact hw),if_pos (by rw[hok.len]; exact hone.1),ob,ob];by_cases h:a < ld out[i]
   ·have hd:decide ((a:Int) < (ld out[i]:Int))=true:=by simpa using h
    rw[ins_cons,if_pos h]at e;rw[hd,if_pos rfl,qJ (by simp; omega) (by simp; omega),ob,ob,ob,jZ (by rw[hok.len]; exact n.lt),ob,hq,ob,qJ (by simp; omega) (by simp; omega),ob];exact⟨_,rfl,by simp; omega,fun _=> by rw[←e]; simp only[vE,wO,vU,vN],fun h=> by cases h⟩
   ·have hd:decide ((a:Int) < (ld out[i]:Int))=false:=by simpa using h
    rw[ins_cons,if_neg h]at e;rw[hd,if_neg wD,ob,ob,jZ (by rw[hok.len]; exact n.lt),ob,hq,ob,qJ (by simp; omega) (by simp; omega),ob];exact⟨_,rfl,by simp; omega,(fun h=> by cases h),fun _=> by rw[←e]; simp only[wO,vU,vN]⟩) (by
  rintro⟨nx,put⟩ ⟨p1,p2,p3⟩;simp only at p1 p2 p3;refine⟨_,rfl,?_,by simp only; omega⟩;rw[List.drop_length]at p2 p3;cases put with
  |true=> simpa using p2 rfl
  |false=> simpa[ins]using p3 rfl)
 exact⟨t.1,t.2,g1,g2,g3⟩
theorem F131_ech{p:Int}{w:Nat}(hp:IsP p){rows:aJ}(hr:Rows p w rows)(hw:w≤1048576)(hn:rows.length≤1000000):∃out,F131 p rows=some out∧qT p w rows out:=by
 have hpr:=hp.range;have dA:1 < p:=by omega
 obtain⟨t,g1,g2,g3⟩:=qu (B:=F131_1_B p rows) (D:=F131_1_D) rows.length rfl (by omega) (fun i s=> qT p w (rows.take i) s∧s.length≤i) (fun t=> qT p w rows t∧t.length≤rows.length) (s:=[]) ⟨.nil p w,wE _⟩ (by
  rintro i out hi ⟨p1,p2⟩;left;have hrow:=hr _ (wC hi);have hrt:Rows p w (rows.take i):=fun r h=> hr r (wP h);have hrest:=jY (show 0 < p by omega) p1.red.ok hrow;have hl:¬(ld (rest p out rows[i]) < w)∨ld (rest p out rows[i]) < w:=by omega
  unfold F131_1_B;rw[qr hi,ob,F134_eq hpr p1.red hrow hw (by omega),ob,F81_ld (by rw[hrest.len]; exact hw),ob,hrest.len];rcases hl with hl|hl
  ·rw[if_neg hl,if_pos (by decide)]
   refine⟨out,rfl,?_,by omega⟩;rw[←wW hi];exact p1.skip dA hrt hrow fun j hj=> zL (by omega)
  ·rw[if_pos hl,if_neg (by omega)]
   have hne:=ld_ne (r:=rest p out rows[i]) (by rw[hrest.len]; exact hl);have hrg:=hrest.rng _ hl;obtain⟨k,k1,k2,k3,k4⟩:=F135_eq hp (x:=nth (rest p out rows[i]) (ld (rest p out rows[i]))) (by omega) hrg.2;have n:=p1.new dA hrow hl (fun j hj=> zL hj) k4;obtain⟨nx,put,q1,q2,q3⟩:=F131_3_eq hpr p1.red n hw (by omega);have hlen:((rest p out rows[i]).length:Int)=(w:Int):=by rw[hrest.len]
   have hsc:=scl_loop hpr ⟨k2,k3⟩ hrest hw (B:=F131_2_B p k) (D:=F131_2_D) (fun i row=> rfl) (fun i s=> rfl);have hput:=p1.put dA hrt hrow hl (fun j hj=> zL hj) k4;rw[wW hi]at hput;rw[jZ (by rw[hrest.len]; exact hl),ob,k1,ob,←hlen,hsc,ob,q1,ob];simp only;cases put with
   |true=>
    rw[if_pos rfl]at q2 ⊢;rw[q2];exact⟨_,rfl,hput,by rw[ins_len]; omega⟩
   |false=>
    rw[if_neg wD]at q2 ⊢;rw[qJ (by simp; omega) (by simp; omega),ob,q2];exact⟨_,rfl,hput,by rw[ins_len]; omega⟩) (by
  rintro out ⟨p1,p2⟩;rw[vH]at p1;exact⟨_,rfl,p1,p2⟩)
 exact⟨t,g1,g2⟩
theorem F128_first{l:aJ}{f:L1→Option Bool}(P:L1→Bool)(hl:l.length≤1048576)(hf:∀x∈l,f x=some (P x)):∃i:Int,F128 l f=some i∧((i= -1∧∀x∈l,P x=false)∨∃m:Nat,i=m∧m < l.length∧P (qE l m)=true):=by
 unfold F128;obtain⟨t,h1,h2⟩:=qu (B:=kK l f) (D:=F128_1_D l f) (hi:=l.length) l.length rfl (by omega) (fun i _=>∀k (hk:k < i) (h2:k < l.length),P l[k]=false) (fun t=>(t= .inl ()∧∀x∈l,P x=false)∨∃m:Nat,t= .inr (m:Int)∧m < l.length∧P (qE l m)=true) (s:=()) (fun k hk=> by omega) (by
  intro i _ hi hI;unfold kK;rw[qr hi,ob,hf _ (wC hi),ob];cases hp:P l[i]with
  |true=> right; exact⟨_,rfl,.inr ⟨i,rfl,hi,by rw[qX hi]; exact hp⟩⟩
  |false=>
   left;refine⟨(),rfl,fun k hk h2=>?_⟩;by_cases e:k=i
   ·subst e; exact hp
   ·exact hI k (by omega) h2) (by
  intro _ hI;refine⟨.inl (),rfl,.inl ⟨rfl,fun x hx=>?_⟩⟩;obtain⟨k,hk,rfl⟩:=wN hx;exact hI k hk hk)
 rw[h1,ob];rcases h2 with⟨rfl,h2⟩|⟨m,rfl,h2⟩
 ·exact⟨_,rfl,.inl ⟨rfl,h2⟩⟩
 ·exact⟨_,rfl,.inr ⟨m,rfl,h2⟩⟩
theorem gstep_loop{p:Int}{w c d:Nat}(hp:2≤p∧p≤7){l:aJ}{row:L1}(hl:Rows p w l)(hd:d < l.length)(hrow:qE l d=row)(hc:c < w)(hw:w≤1048576)(hn:l.length≤1000000):
  forR 0 (l.length:Int) (F133_4_B p c d) F133_4_D l=some (jS p c d row l):=by
 have hdr:=hl _ (zJ hd);rw[hrow]at hdr;rw[idx_loop (l:=l) (B:=F133_4_B p c d) (D:=F133_4_D) (fun i r=> if i=d then r else subv p r row (nth r c)) (by omega) (fun i hi s hs hk=>?_) (fun i s=> rfl)]
 ·unfold jS
  congr 1
  have:l.set d row=l:=by
   rw[←hrow,qX hd]; exact List.set_getElem_self hd
  rw[this]
 ·have h1:s[i]'(by omega)=l[i]:=by
   have:=hk i;rw[if_neg (Nat.lt_irrefl _),gE (by omega),gE hi]at this;exact wA this
  have h2:s[d]'(by omega)=row:=by
   have:=hk d;rw[gE (by omega),gE hd]at this;rw[←hrow,qX hd];split at this
   ·simpa using this
   ·exact wA this
  unfold F133_4_B;by_cases e:i=d
  ·subst e
   rw[if_pos rfl,if_pos rfl,←h1,List.set_getElem_self]
  ·have hr:=hl _ (wC hi)
   have hrc:=hr.rng c hc;rw[if_neg (by omega),if_neg e,qr (show i < s.length by omega),ob,qr (show d < s.length by omega),ob,h1,h2,jZ (by rw[hr.len]; exact hc),ob,F139_eq hp hrc hr hdr hw,ob,za (by omega),ob]
theorem F133_ech{p:Int}{w:Nat}(hp:IsP p){rows:aJ}(hr:Rows p w rows)(hw:w≤1048576)(hn:rows.length≤1000000):∃out,F133 p rows=some out∧qT p w rows out:=by
 have hpr:=hp.range;have dA:1 < p:=by omega
 unfold F133;rw[cpy_loop (l:=rows) (B:=F133_1_B rows) (D:=F133_1_D) (by omega) (fun i hi s hs=> by
  unfold F133_1_B;have:=hr _ (wC hi);rw[qr hi,ob,F96_eq (by rw[this.len]; exact hw),ob,qJ (by simp; omega) (by simp; omega),ob]) (fun i s=> rfl),ob]
 by_cases h0:(rows.length:Int)=0
 ·rw[if_pos h0]
  have:rows=[]:=wY (by omega);subst this;exact⟨_,rfl,.nil p w⟩
 rw[if_neg h0];have hpos:0 < rows.length:=by omega
 have e0:=qr hpos;simp only[Int.natCast_zero]at e0;have hw0:=(hr _ (wC hpos)).len;rw[show(0:Int)=((0:Nat):Int) from rfl,qr hpos,ob];obtain⟨t,g1,g2,g3,g4⟩:=qu (B:=F133_2_B p) (D:=F133_2_D) (hi:=(rows[0].length:Int)) w (by rw[hw0]) (by omega) (fun c s=>∃d:Nat,s.2=d∧d < s.1.length∧s.1.length=rows.length∧GInv p w rows c s.1 d)
  (fun t=> qT p w rows (t.1.take t.2.toNat)∧0≤t.2∧t.2≤t.1.length) (s:=(rows,0)) ⟨0,rfl,hpos,rfl,.start hr⟩ (by
  rintro c ⟨l,dd⟩ hc ⟨d,p1,p2,p3,g⟩;simp only at p1 p2 p3 g;subst p1;have hrl:∀x∈l.drop d,(fun r=> F137 r (c:Int)) x=some (!decide (nth x c=0)):=fun x hx=> by
   have hx':=g.ok x (yF hx);show F137 x c=_;unfold F137;rw[jZ (by rw[hx'.len]; exact hc),ob]
  obtain⟨at_,a1,a2⟩:=F128_first (fun x=> !decide (nth x c=0)) (l:=l.drop d) (by simp; omega) hrl;unfold F133_2_B;simp only;rw[if_pos ⟨by omega,by omega⟩,wQ,a1,ob];rcases a2 with⟨rfl,a2⟩|⟨m,rfl,a2,a3⟩
  ·rw[if_pos (by decide)]
   left;refine⟨_,rfl,d,rfl,p2,p3,g.skip hc fun i h1 h2=>?_⟩;have hx:qE l i∈l.drop d:=by
    rw[qX h2,List.mem_iff_getElem];exact⟨i - d,by simp; omega,by simp[show d+(i - d)=i by omega]⟩
   simpa using a2 _ hx
  ·have hml:m < l.length - d:=by simpa using a2
   have hj:d+m < l.length:=by omega
   have hrm:qE (l.drop d) m=qE l (d+m):=by rw[qX a2,qX hj,List.getElem_drop]
   rw[hrm]at a3;have hne:nth (qE l (d+m)) c≠0:=by simpa using a3
   have hrj:=g.ok _ (zJ hj);have hrg:=hrj.rng c hc;obtain⟨k,k1,k2,k3,k4⟩:=F138_eq hp (x:=nth (qE l (d+m)) c) (by omega) hrg.2
   -- the swapped list
   have ew:((l.set d (qE l (d+m))).set (d+m) (qE l d)).length=l.length:=by simp
   have h2:∀i,i < l.length→qE ((l.set d (qE l (d+m))).set (d+m) (qE l d)) i=qE l (if i=d+m then d else if i=d then d+m else i):=fun i hi=> by
    rw[qX (by simp; exact hi)];by_cases e:i=d+m
    ·subst e; rw[if_pos rfl]; simp
    ·rw[if_neg e,List.getElem_set_ne (yS e)]
     by_cases e2:i=d
     ·subst e2; rw[if_pos rfl]; simp
     ·rw[if_neg e2,List.getElem_set_ne (yS e2),qX hi]
   have gp:=g.put dA hc (show d≤d+m by omega) hj k4 ew h2;have hrd:qE ((l.set d (qE l (d+m))).set (d+m) (qE l d)) d=qE l (d+m):=by
    rw[h2 d p2];by_cases e:d=d+m
    ·rw[if_pos e,←e]
    ·rw[if_neg e,if_pos rfl]
   generalize hl2:(l.set d (qE l (d+m))).set (d+m) (qE l d)=l2 at*;have hsc:=scl_loop hpr ⟨k2,k3⟩ hrj hw (B:=F133_3_B p k) (D:=F133_3_D) (fun i row=> rfl) (fun i s=> rfl);have i6:Rows p w (l2.set d (scl p (qE l (d+m)) k)):=fun r hr'=> by
    rcases List.mem_or_eq_of_mem_set hr' with q|q
    ·obtain⟨i,hi,rfl⟩:=xN.1 q
     rw[h2 i (by omega)];refine g.ok _ (zJ ?_);split
     ·exact p2
     ·split
      ·exact hj
      ·omega
    ·rw[q]; exact scl_ok (by omega) hrj k
   have rk:(l2.set d (scl p (qE l (d+m)) k)).length=l.length:=by simp[ew]
   have hr3:qE (l2.set d (scl p (qE l (d+m)) k)) d=scl p (qE l (d+m)) k:=by rw[qX (by omega)]; simp
   have hgl:=gstep_loop hpr i6 (show d < _ by omega) hr3 hc hw (by omega);have hgs:jS p c d (scl p (qE l (d+m)) k) (l2.set d (scl p (qE l (d+m)) k))=jS p c d (scl p (qE l (d+m)) k) l2:=by unfold jS; rw[List.set_set]
   rw[hgs]at hgl;have hlen4:(jS p c d (scl p (qE l (d+m)) k) l2).length=l.length:=by rw[gstep_len]; exact ew
   have e1:getI l ((d+m:Nat):Int)=some (qE l (d+m)):=by rw[qr hj,qX hj]
   have e2:getI l (d:Int)=some (qE l d):=by rw[qr p2,qX p2]
   have e3:getI l2 (d:Int)=some (qE l (d+m)):=by rw[qr (by omega),←qX (by omega),hrd]
   rw[if_neg (by omega),qn (by omega) (by omega),ob,show(d:Int)+(m:Int)=((d+m:Nat):Int) by omega,e1,ob,e2,ob,za p2,ob,za (by simp; omega),ob,hl2,e3,ob,
    jZ (by rw[hrj.len]; exact hc),ob,k1,ob,hsc,ob,za (by omega),ob,hgl,ob,qn (by omega) (by omega),ob]
   by_cases pQ:(d:Int)+1=((jS p c d (scl p (qE l (d+m)) k) l2).length:Int)
   ·right
    rw[if_pos pQ];refine⟨_,rfl,?_,by simp only; omega,by simp only; omega⟩;simp only;rw[show((d:Int)+1).toNat=d+1 by omega];exact gp.done dA (.inr (by omega))
   ·left
    rw[if_neg pQ];refine⟨_,rfl,d+1,by simp only; omega,by simp only; have:=gp.dn; omega,by simp only; omega,gp⟩) (by
  rintro⟨l,dd⟩ ⟨d,p1,p2,p3,g⟩;simp only at p1 p2 p3 g;subst p1;refine⟨_,rfl,?_,by simp only; omega,by simp only; omega⟩;simp only;rw[wQ];exact g.done dA (.inl rfl))
 rw[show((0:Nat):Int)=(0:Int) from rfl,g1,ob,if_pos ⟨g3,g4⟩];exact⟨_,rfl,g2⟩
theorem qN{p:Int}{w:Nat}(hp:IsP p){rows:aJ}(hr:Rows p w rows)(hw:w≤1048576)(hn:rows.length≤1000000):∃out,F131 p rows=some out∧F133 p rows=some out∧qT p w rows out:=by
 obtain⟨a,a1,a2⟩:=F131_ech hp hr hw hn;obtain⟨b,b1,b2⟩:=F133_ech hp hr hw hn;have:=a2.same (by have:=hp.range; omega) b2;subst this;exact⟨a,a1,b1,a2⟩
theorem F133_self{p:Int}{w:Nat}(hp:IsP p){E:aJ}(h:Red p w E)(hw:w≤1048576)(hn:E.length≤1000000):F133 p E=some E:=by
 obtain⟨X, -,x2,x3⟩:=qN hp h.ok hw hn;rw[x2,x3.same (by have:=hp.range; omega) (qT.self h)]
theorem zg{p:Int}{w:Nat}{E:aJ}(h:Red p w E):E.length≤w:=by
 have h1:=h.leads;have key:∀ (l:List Nat) (b:Nat),l.Pairwise (·< ·)→(∀x∈l,b≤x∧x < w)→l.length+b≤max w b:=by
  intro l;induction l with
  |nil=> intro b _ _; simp; omega
  |cons a l ih=>
   intro b hp hx;obtain⟨p1,p2⟩:=vP.1 hp;have ha:=hx a wH;have:=ih (a+1) p2 fun x hx'=>⟨p1 x hx',(hx x (wI _ hx')).2⟩;simp only[vJ];omega
 have:=key (E.map ld) 0 h1 fun x hx=> by
  obtain⟨r,hr,rfl⟩:=wL.1 hx;exact⟨vS _,(h.one r hr).1⟩
 simpa using this
theorem set_app_right{r s:L1}{i:Nat}(x:Int):(r++s).set (r.length+i) x=r++s.set i x:=by
 rw[yV _ _ (by omega)]; simp
theorem F125_1_eq{p:Int}{w:Nat}{rows:aJ}(hr:Rows p w rows){x2:L1}(hx:x2.length=w)(hw:w≤1000)(hn:rows.length≤1000):
  forR 0 (rows.length:Int) (F125_1_B p rows x2) (F125_1_D p rows x2) []=some (jG rows.length rows):=by
 have hl:=longs_len rows.length rows;obtain⟨t,g1,g2⟩:=qu (B:=F125_1_B p rows x2) (D:=F125_1_D p rows x2) rows.length rfl (by omega) (fun i s=> s=(jG rows.length rows).take i) (fun t=> t=jG rows.length rows) (s:=[]) (by simp) (by
  rintro i s hi rfl;left;have hri:=hr _ (wC hi);refine⟨(jG rows.length rows).take (i+1),?_,rfl⟩;unfold F125_1_B appZ;have hz:List.replicate ((rows.length:Int)).toNat (0:Int)=zv rows.length:=by simp[zv]
  have hzl:(zv rows.length).length=rows.length:=by simp[zv]
  have e:((x2.length:Int)+(i:Int))=((rows[i].length+i:Nat):Int):=by rw[hx,hri.len]; omega
  rw[qr hi,ob,F96_eq (by rw[hri.len]; omega),ob,if_pos ⟨by omega,by omega,by omega⟩,hz,qJ (by rw[hri.len,hzl]; omega) (by rw[hri.len,hzl]; omega),ob,qn (by rw[hx]; omega) (by rw[hx]; omega),ob,e,qr (by rw[wM,hzl]; omega),ob,
   za (by rw[wM,hzl]; omega),ob,qJ (by simp; omega) (by simp; omega),ob,set_app_right]
  congr 2
  rw[←wW (show i < (jG rows.length rows).length by omega),longs_at,qX hi];rfl) (by
  rintro s rfl;exact⟨_,rfl,by rw[wR (by omega)]⟩)
 rw[g1,g2]
theorem F122_1_eq{p:Int}{w:Nat}{rows:aJ}(hr:Rows p w rows)(hw:w≤1000)(hn:rows.length≤1000):
  forR 0 (rows.length:Int) (F122_1_B p rows.length rows) (F122_1_D p rows.length rows) ([],0)=some (jG rows.length rows,if rows.length=0 then 0 else(w:Int)):=by
 have hl:=longs_len rows.length rows;obtain⟨t,g1,g2⟩:=qu (B:=F122_1_B p rows.length rows) (D:=F122_1_D p rows.length rows) rows.length rfl (by omega) (fun i s=> s=((jG rows.length rows).take i,if i=0 then 0 else(w:Int))) (fun t=> t=(jG rows.length rows,if rows.length=0 then 0 else(w:Int))) (s:=([],0)) (by simp) (by
  rintro i s hi rfl;left;have hri:=hr _ (wC hi);refine⟨((jG rows.length rows).take (i+1),if i+1=0 then 0 else(w:Int)),?_,rfl⟩;unfold F122_1_B;simp only;have hzl:(zv rows.length).length=rows.length:=by simp[zv]
  rw[mkL_ok rows.length rfl (by omega) (by omega),ob]
  change (getI (zv rows.length) (i:Int)).bind _=_
  rw[qr (by omega),ob]
  change (setI (zv rows.length) (i:Int) 1).bind _=_
  rw[za (by omega),ob,qr hi,ob,F94_eq (by rw[hri.len]; omega),ob,qJ (by simp[zv,hri.len]; omega) (by simp[zv,hri.len]; omega),ob,qJ (by simp; omega) (by simp; omega),ob,if_neg (by omega),hri.len]
  congr 3
  rw[←wW (show i < (jG rows.length rows).length by omega),longs_at,qX hi];rfl) (by
  rintro s rfl;exact⟨_,rfl,by rw[wR (by omega)]⟩)
 rw[g1,g2]
theorem tails_take{w i:Nat}{E:aJ}(hi:i < E.length):jm w (E.take (i+1))=if w≤ld E[i]then jm w (E.take i)++[E[i].drop w]else jm w (E.take i):=by
 unfold jm;rw[←wW hi,List.filter_append,yI];by_cases h:w≤ld E[i]
 ·rw[if_pos h]; simp[h]
 ·rw[if_neg h]; simp[h]
theorem tails_len{w:Nat}{E:aJ}:(jm w E).length≤E.length:=by
 unfold jm;rw[vM]; exact List.length_filter_le _ _
theorem F122_2_eq{p:Int}{w n:Nat}{E:aJ}(h:Red p (w+n) E)(hw:w+n≤10000):
  forR 0 (E.length:Int) (xJ w E) (kL w E) []=some (jm w E):=by
 have hE:=zg h;obtain⟨t,g1,g2⟩:=qu (B:=xJ w E) (D:=kL w E) E.length rfl (by omega) (fun i s=> s=jm w (E.take i)) (fun t=> t=jm w E) (s:=[]) (by simp[jm]) (by
  rintro i s hi rfl;left;have hk:=h.ok _ (wC hi);have ho:=h.one _ (wC hi);have htl:(jm w (E.take i)).length≤10000:=by have:=tails_len (w:=w) (E:=E.take i); simp at this; omega
  refine⟨jm w (E.take (i+1)),?_,rfl⟩;rw[tails_take hi];unfold xJ;rw[qr hi,ob,F81_ld (by rw[hk.len]; omega),if_pos (by rw[hk.len]; exact ho.1),ob];by_cases q:w≤ld E[i]
  ·rw[if_pos (by omega),if_pos q]
   unfold slI;rw[if_pos ⟨by omega,by rw[hk.len]; omega,vV _⟩,ob,wQ,wQ,vH,F94_eq (by simp[hk.len]; omega),ob,qJ (by simp; omega) (by simp; omega),ob]
  ·rw[if_neg (by omega),if_neg q]) (by
  rintro s rfl;exact⟨_,rfl,by rw[vH]⟩)
 rw[g1,g2]
theorem isZero_take{r:L1}{w:Nat}(h:w≤r.length):(∀x∈r.take w,x=0)↔w≤ld r:=by
 constructor
 ·intro hx
  refine Nat.le_of_not_lt fun q=>?_;have hl:ld r < r.length:=by omega
  refine ld_ne hl (by rw[zd hl]; exact hx _ (List.mem_take_iff_getElem.2 ⟨ld r,by omega,rfl⟩))
 ·intro q x hx
  obtain⟨i,hi,rfl⟩:=List.mem_take_iff_getElem.1 hx;have:=zL (r:=r) (j:=i) (by omega)
  rwa[zd (by omega)]at this
theorem F125_2_eq{p:Int}{w n:Nat}{E:aJ}(h:Red p (w+n) E)(hw:w+n≤10000){x2:L1}(hx:x2.length=w):
  forR 0 (E.length:Int) (F125_2_B p x2 E) (F125_2_D p x2 E) []=some (jm w E):=by
 have hE:=zg h;obtain⟨t,g1,g2⟩:=qu (B:=F125_2_B p x2 E) (D:=F125_2_D p x2 E) E.length rfl (by omega) (fun i s=> s=jm w (E.take i)) (fun t=> t=jm w E) (s:=[]) (by simp[jm]) (by
  rintro i s hi rfl;left;have hk:=h.ok _ (wC hi);have ho:=h.one _ (wC hi);have htl:(jm w (E.take i)).length≤10000:=by have:=tails_len (w:=w) (E:=E.take i); simp at this; omega
  refine⟨jm w (E.take (i+1)),?_,rfl⟩;rw[tails_take hi];unfold F125_2_B slI;rw[qr hi,ob,hx,if_pos ⟨by omega,by omega,by rw[hk.len]; omega⟩,ob,wQ,Int.toNat_zero,vO];rcases((F92_tells (l:=E[i].take w) (by simp; omega)).iff (isZero_take (by rw[hk.len]; omega))).case with⟨e,q⟩|⟨e,q⟩
  ·rw[e,ob,if_pos rfl,if_pos q,if_pos ⟨by omega,by rw[hk.len]; omega,vV _⟩,ob,wQ,vH,qJ (by simp; omega) (by simp; omega),ob]
  ·rw[e,ob,if_neg wD,if_neg q]) (by
  rintro s rfl;exact⟨_,rfl,by rw[vH]⟩)
 rw[g1,g2]
theorem kernel_same{p:Int}{w:Nat}(hp:IsP p){rows:aJ}(hr:Rows p w rows)(hw:w≤1000)(hn:rows.length≤1000):∃K,F122 p rows.length rows=some K∧F125 p rows=some K∧Red p rows.length K:=by
 have dA:1 < p:=by have:=hp.range; omega
 unfold F122 F125;rw[F122_1_eq hr hw hn,ob];simp only;by_cases h0:rows.length=0
 ·have:rows=[]:=wY h0
  subst this;have e:(jG ([]:aJ).length [])=[]:=by simp[jG]
  obtain⟨E,e1, -,e3⟩:=qN hp (rows:=[]) (w:=0+0) (fun r h=>(nomatch h)) (by omega) (by simp);have hE:E=[]:=wY (by have:=zg e3.red; omega);subst hE;rw[e,e1,ob,if_pos (by simp),if_pos (by simp)];have:=F122_2_eq (w:=0) (n:=0) e3.red (by omega);have h2:forR 0 ((([]:aJ).length:Nat):Int) (xJ 0 []) (kL 0 []) []=some []:=this;rw[h2];exact⟨[],rfl,rfl,⟨fun r h=>(nomatch h),fun r h=>(nomatch h),.nil⟩⟩
 ·rw[if_neg h0,if_neg (by omega)]
  obtain⟨E,e1,e2,e3⟩:=qN hp (longs_ok dA hr) (by omega) (by rw[longs_len]; omega);have hpos:0 < rows.length:=by omega
  have dq:=(hr _ (wC hpos)).len;have ht:=tails_red e3.red;rw[show(0:Int)=((0:Nat):Int) from rfl,qr hpos,ob,show((0:Nat):Int)=(0:Int) from rfl,e1,ob,F122_2_eq e3.red (by omega),ob,F125_1_eq hr dq hw hn,ob,e2,ob,F125_2_eq e3.red (by omega) dq,ob,F133_self hp ht (by omega) (by have:=zg ht; omega),ob];exact⟨_,rfl,rfl,ht⟩
theorem RowOK.vec{p w:Int}{row:L1}(h:RowOK p w row):qP p w.toNat row:=by
 have h1:=h.1;refine⟨by omega,fun j hj=>?_⟩;have hj':j < row.length:=by omega
 rw[zd hj'];have:=h.2 _ (wC hj');omega
theorem zp.dim{x:qe}(h:zp x){n:Nat}(hn:n < x.D.length):0≤x.D.getD n 0∧x.D.getD n 0≤8:=h.dims _ (qz hn 0)
theorem F99_at{x:qe}(hs:x.D.length≤1048576){n:Nat}(hn:n < x.D.length):F99 x (n:Int)=some (x.D.getD n 0):=by
 unfold F99;rw[qn (by omega) (by omega),ob,xy,ob,if_pos (by simp; omega),qk hn 0,ob]
theorem F102_at{x:qe}(hs:x.D.length≤1048576){n:Nat}(hn:n < x.D.length):F102 x (n:Int)=some (x.D.getD n 0):=by
 unfold F102;rw[jV hs,ob,xx,ob,if_pos (by simp; omega),qk hn 0,ob]
theorem F124_eq{n:Nat}(hn:n≤1000):F124 (n:Int)=some (zy n):=by
 unfold F124;have hl:=jO n;obtain⟨t,g1,g2⟩:=qu (B:=F124_1_B (n:Int)) (D:=F124_1_D (n:Int)) n rfl (by omega) (fun i s=> s=(zy n).take i) (fun t=> t=zy n) (s:=[]) (by simp) (by
  rintro i s hi rfl;left;refine⟨(zy n).take (i+1),?_,rfl⟩;have hzl:(zv n).length=n:=by simp[zv]
  unfold F124_1_B F132;rw[mkL_ok n rfl (by omega) (by omega),ob]
  change (((getI (zv n) (i:Int)).bind _).bind _=_)
  rw[qr (by omega),ob]
  change (((setI (zv n) (i:Int) 1).bind _).bind _=_)
  rw[za (by omega),ob,ob,qJ (by simp; omega) (by simp; omega),ob]
  congr 2
  rw[←wW (show i < (zy n).length by omega)]
  congr 2
  simp[zy,jN]) (by
  rintro s rfl;exact⟨_,rfl,by rw[wR (by omega)]⟩)
 rw[g1,ob,g2]
theorem ky{p:Int}(hp:IsP p){n:Nat}(hn:n≤1000):F122 p (n:Int) (List.replicate n [])=some (zy n):=by
 have dA:1 < p:=by have:=hp.range; omega
 have hr:Rows p 0 (List.replicate n ([]:L1)):=fun r hr=> by
  obtain⟨_,rfl⟩:=List.mem_replicate.1 hr;exact⟨rfl,fun j hj=> absurd hj (yQ _)⟩
 have hl:(List.replicate n ([]:L1)).length=n:=by simp
 have e0:=F122_1_eq hr (by omega) (by omega);rw[hl]at e0;have hlong:jG n (List.replicate n ([]:L1))=zy n:=by
  unfold jG zy;refine yO fun i hi=>?_;have:i < n:=wV.1 hi;simp[qE,this]
 have hu:=zX dA n;obtain⟨E,e1, -,e3⟩:=qN hp hu.ok (by omega) (by rw[jO]; omega);have hE:=e3.same dA (qT.self hu);subst hE;have ht:jm 0 (zy n)=zy n:=by
  unfold jm;rw[List.filter_eq_self.2 (fun r _=> by simp)]
  conv=> rhs; rw[←List.map_id (zy n)]
  exact yO fun r _=> rfl
 have h2:=F122_2_eq (w:=0) (n:=n) (by rw[wX]; exact hu) (by omega);rw[ht]at h2;have h2':forR 0 ((zy n).length:Int) (xJ 0 (zy n)) (kL 0 (zy n)) []=some (zy n):=h2;unfold F122;rw[e0,ob];have hz:(if n=0 then(0:Int)else((0:Nat):Int))=0:=by split <;> rfl
 simp only;rw[hz,hlong,e1,ob,h2',ob]
theorem F76_0{x:qe}(hs:x.D.length≤1048576)(hl:0 < x.D.length){n:Nat}(hn:x.D.getD 0 0=n)(hn8:n≤1000):F76 x 0=some (List.replicate n []):=by
 unfold F76;rw[qn (by omega) (by omega),ob,xy,ob,if_neg (by simp)];have j8:F99 x 0=some (n:Int):=by have:=F99_at hs hl; rw[hn]at this; exact this
 obtain⟨t,g1,g2⟩:=qV (S:=kG x 0) (fun s=>(n - s.2).toNat) (fun s=> 0≤s.2∧s.2≤n∧s.1=List.replicate s.2.toNat []) (fun t=> t=List.replicate n []) (s:=([],0)) ⟨vV _,by omega,rfl⟩ (by
  rintro⟨l,j⟩ ⟨p1,p2,p3⟩;simp only at p1 p2 p3;subst p3;unfold kG;simp only;rw[j8,ob];by_cases hj:j < (n:Int)
  ·left
   rw[if_pos hj,qJ (by simp; omega) (by simp; omega),ob,qn (by omega) (by omega),ob];refine⟨_,rfl,⟨by simp only; omega,by simp only; omega,?_⟩,by simp only; omega⟩;simp only;rw[show(j+1).toNat=j.toNat+1 from by omega,List.replicate_succ']
  ·right
   rw[if_neg hj];have:j.toNat=n:=by omega
   rw[this];exact⟨_,rfl,rfl⟩)
 rw[g1,ob,g2]
theorem cycles_same{x:qe}(hx:zx x)(h:zp x){n:Nat}(hn:n < x.D.length):∃K,F98 x (n:Int)=some K∧F100 x (n:Int)=some K∧Red x.P (x.D.getD n 0).toNat K:=by
 have dA:1 < x.P:=by have:=h.p.range; omega
 have hd:=h.dim hn;have hml:=h.ml;have hxd:=hx.d;unfold F98 F100;rw[F99_at hx.d hn,ob];rcases Nat.eq_zero_or_pos n with h0|h0
 ·subst h0
  have hdn:x.D.getD 0 0=((x.D.getD 0 0).toNat:Int):=by omega
  rw[if_pos (by omega),show((0:Nat):Int)=0 from rfl,F76_0 hx.d hn hdn (by omega),ob,hdn,wQ,ky h.p (by omega),ob];have rU:=F102_at hx.d hn;rw[hdn]at rU;rw[show(0:Int)=((0:Nat):Int) from rfl,rU,ob,F124_eq (by omega),ob];exact⟨_,rfl,rfl,zX dA _⟩
 ·obtain⟨k,rfl⟩:∃k,n=k+1:=⟨n - 1,by omega⟩
  have hk:k < x.M.length:=by omega
  have ht:=h.tab k hk;have hdk:=h.dim (show k < x.D.length by omega);have e1:getI x.M (k:Int)=some (x.M.getD k []):=qk hk [];have hr:Rows x.P (x.D.getD k 0).toNat (x.M.getD k []):=fun r hr=>(ht.2 r hr).vec;have ry:F76 x ((k+1:Nat):Int)=some (x.M.getD k []):=by
   unfold F76;rw[qn (by omega) (by omega),ob,xy,ob,if_pos (by simp; omega),qn (by omega) (by omega),ob,show((k+1:Nat):Int) - 1=(k:Int) by omega,e1,ob]
  have hlen:=ht.1;obtain⟨K,k1,k2,k3⟩:=kernel_same h.p hr (by omega) (by omega);rw[ry,ob,←hlen,k1,ob,if_neg (by omega),jV hx.d,ob,if_neg (by omega),qn (by omega) (by omega),ob,show((k+1:Nat):Int) - 1=(k:Int) by omega,e1,ob,k2,ob,wQ];exact⟨_,rfl,rfl,k3⟩
theorem jA{α β:Type}{l:List α}(g:α→β){B:Int→List β→Option (List β⊕List β)}{D:Int→List β→Option (List β)}{s0:List β}(hl:l.length≤1000000)
  (hB:∀ (k:Nat) (hk:k < l.length) (s:List β),s.length=s0.length+k→B k s=some (.inl (s++[g l[k]]))) (hD:∀i s,D i s=some s):forR 0 (l.length:Int) B D s0=some (s0++l.map g):=by
 have hlen:l.length < 4611686018427387904:=by omega
 obtain⟨t,g1,g2⟩:=qu (B:=B) (D:=D) l.length rfl hlen (fun i s=> s=s0++(l.map g).take i) (fun t=> t=s0++l.map g) (s:=s0) (by simp) (by
  rintro i s hi rfl;left;refine⟨_,hB i hi _ (by simp; omega),?_⟩;have:i < (l.map g).length:=by simpa using hi
  rw[←wW this];simp) (by
  rintro s rfl;exact⟨_,hD _ _,by rw[wR (by simp)]⟩)
 rw[g1,g2]
def coll{β:Type}(n:Nat)(f:Nat→List β):List β:=(List.range n).flatMap f
theorem zZ{β:Type}(n:Nat)(f:Nat→List β):coll (n+1) f=coll n f++f n:=by
 unfold coll; rw[uJ,List.flatMap_append]; simp
theorem coll_len{β:Type}{f:Nat→List β}(h:∀i,(f i).length≤1):∀n,(coll n f).length≤n
 |0=> by simp[coll]
 |n+1=> by rw[zZ,wM]; have:=coll_len h n; have:=h n; omega
theorem mem_coll{β:Type}{n:Nat}{f:Nat→List β}{b:β}:b∈coll n f↔∃i,i < n∧b∈f i:=by simp[coll]
theorem coll_map{β γ:Type}{n:Nat}{f:Nat→List β}(g:β→γ):(coll n f).map g=coll n fun i=>(f i).map g:=by simp[coll,List.map_flatMap]
theorem coll_congr{β:Type}{n:Nat}{f g:Nat→List β}(h:∀i,i < n→f i=g i):coll n f=coll n g:=by
 induction n with
 |zero=> rfl
 |succ n ih=> rw[zZ,zZ,ih fun i hi=> h i (by omega),h n (by omega)]
theorem xV{β:Type}{n:Nat}(f:Nat→List β){B:Int→List β→Option (List β⊕List β)}{D:Int→List β→Option (List β)}(hn:n≤1000000)(h1:∀i,(f i).length≤1)
  (hB:∀ (i:Nat) (s:List β),i < n→s.length≤i→B i s=some (.inl (s++f i))) (hD:∀i s,D i s=some s):forR 0 (n:Int) B D []=some (coll n f):=by
 have hlen:n < 4611686018427387904:=by omega
 obtain⟨t,g1,g2⟩:=qu (B:=B) (D:=D) n rfl hlen (fun i s=> s=coll i f) (fun t=> t=coll n f) (s:=[]) (by simp[coll]) (by
  rintro i s hi rfl;left;exact⟨_,hB i _ hi (coll_len h1 i),(zZ i f).symm⟩) (by
  rintro s rfl;exact⟨_,hD _ _,rfl⟩)
 rw[g1,g2]
theorem loopW_coll{β:Type}{n:Nat}(f:Nat→List β){S:List β×Int→Option ((List β×Int)⊕List β)}(h1:∀i,(f i).length≤1)
  (hB:∀ (i:Nat) (s:List β),i < n→s.length≤i→S (s,(i:Int))=some (.inl (s++f i,(i:Int)+1))) (hD:∀s:List β,S (s,(n:Int))=some (.inr s)):qY S ([],0)=some (coll n f):=by
 obtain⟨t,g1,g2⟩:=qV (S:=S) (fun s=>(n - s.2).toNat) (fun s=>∃i:Nat,s.2=i∧i≤n∧s.1=coll i f) (fun t=> t=coll n f) (s:=([],0)) ⟨0,rfl,vS _,by simp[coll]⟩ (by
  rintro⟨s,j⟩ ⟨i,p1,p2,p3⟩;simp only at p1 p3;subst p1; subst p3;by_cases hi:i < n
  ·left
   refine⟨_,hB i _ hi (coll_len h1 i),⟨i+1,by simp,hi,(zZ i f).symm⟩,by simp only; omega⟩
  ·right
   have:i=n:=by omega
   subst this;exact⟨_,hD _,rfl⟩)
 rw[g1,g2]
def dm(x:qc)(n:Nat):Nat:=(x.C.D.getD n 0).toNat
def lv(x:qc)(n j:Nat):Int:=(x.L.getD n []).getD j 0
def mt(x:qc)(n:Nat):aJ:=x.C.M.getD (n - 1) []
theorem zA{x:qc}(h:qx x){n:Nat}(hn:n < x.L.length):x.C.D.getD n 0=(dm x n:Int)∧dm x n≤8∧(x.L.getD n []).length=dm x n:=by
 have h1:=h.vc.dim (n:=n) (by rw[←h.ll]; exact hn);have h2:=(h.lv n hn).1;unfold dm; omega
theorem F99_dm{x:qc}(hs:qG x)(h:qx x){n:Nat}(hn:n < x.L.length):F99 x.C (n:Int)=some (dm x n:Int):=by
 rw[F99_at hs.c.d (by rw[←h.ll]; exact hn),(zA h hn).1]
theorem F102_dm{x:qc}(hs:qG x)(h:qx x){n:Nat}(hn:n < x.L.length):F102 x.C (n:Int)=some (dm x n:Int):=by
 rw[F102_at hs.c.d (by rw[←h.ll]; exact hn),(zA h hn).1]
theorem F77_lv{x:qc}(h:qx x){n j:Nat}(hn:n < x.L.length)(hj:j < dm x n):F77 x (n:Int) (j:Int)=some (lv x n j):=
 F77_eq hn (by rw[(zA h hn).2.2]; exact hj)
def qH(x:qc)(n:Nat)(q:Int):L1:=coll (dm x n) fun j=> if lv x n j≤q then [(j:Int)]else []
theorem one_len{c:Prop}[Decidable c]{β:Type}(a:β):(if c then [a]else []).length≤1:=by split <;> simp
theorem xq{x:qc}{n:Nat}{q:Int}:(qH x n q).length≤dm x n:=coll_len (fun j=> one_len _) _
theorem jp{x:qc}{n:Nat}{q v:Int}:v∈qH x n q↔∃j,j < dm x n∧lv x n j≤q∧v=(j:Int):=by
 unfold qH;rw[mem_coll];constructor
 ·rintro⟨j,h1,h2⟩
  split at h2
  ·rename_i hq; exact⟨j,h1,hq,by simpa using h2⟩
  ·simp at h2
 ·rintro⟨j,h1,h2,rfl⟩
  exact⟨j,h1,by simp[h2]⟩
theorem F310_eq{x:qc}(hs:qG x)(h:qx x){n:Nat}(hn:n < x.L.length)(q:Int):F310 x (n:Int) q=some (qH x n q):=by
 unfold F310 qH;have hd:=(zA h hn).2.1;rw[loopW_coll (n:=dm x n) (fun j=> if lv x n j≤q then [(j:Int)]else []) (fun j=> one_len _) (by
  intro i s hi hl;unfold F310_1_S;simp only;rw[F99_dm hs h hn,ob,if_pos (by omega),F77_lv h hn hi,ob];by_cases c:lv x n i≤q
  ·rw[if_pos c,if_pos c,qJ (by simp; omega) (by simp; omega),ob,qn (by omega) (by omega),ob]
  ·rw[if_neg c,if_neg c,qn (by omega) (by omega),ob,vK]) (by
  intro s;unfold F310_1_S;simp only;rw[F99_dm hs h hn,ob,if_neg (by omega)]),ob]
theorem F202_eq{x:qc}(hs:qG x)(h:qx x){n:Nat}(hn:n < x.L.length)(q:Int):F202 x (n:Int) q=some (qH x n q):=by
 unfold F202 qH;have hd:=zA h hn;have hll:=h.ll;rw[jV hs.c.d,ob,xx,ob,if_pos (by simp; omega),qk hn [],ob,hd.2.2,
  xV (n:=dm x n) (B:=F202_1_B q (x.L.getD n [])) (D:=F202_1_D q (x.L.getD n [])) (fun j=> if lv x n j≤q then [(j:Int)]else []) (by omega) (fun j=> one_len _) (by
  intro i s hi hl;unfold F202_1_B;rw[qk (by rw[hd.2.2]; exact hi) 0,ob]
  change (if lv x n i≤q then _ else _)=_
  by_cases c:lv x n i≤q
  ·rw[if_pos c,if_pos c,qJ (by simp; omega) (by simp; omega),ob]
  ·rw[if_neg c,if_neg c,vK]) (by intro i s; rfl),ob]
theorem F202_out{x:qc}(hs:qG x)(h:qx x){n:Int}(hn:n < 0∨x.L.length≤n)(q:Int):F202 x n q=some []:=by
 unfold F202;have hll:=h.ll;rw[jV hs.c.d,ob,xx,ob,if_neg (by simp; omega)]
theorem F203_eq{l:L1}(hl:l.length≤1000000)(v:Int):F203 l v=some (decide (v∈l)):=by
 unfold F203 F211;have hlen:l.length < 4611686018427387904:=by omega
 obtain⟨t,g1,g2⟩:=qu (B:=kJ l v) (D:=F211_1_D l v) l.length rfl hlen (fun i _=> v∉l.take i) (fun t=>(t= .inl ()∧v∉l)∨∃m:Nat,t= .inr (m:Int)∧v∈l) (s:=()) (by simp) (by
  rintro i _ hi hI;unfold kJ;rw[qr hi,ob];by_cases q:v=l[i]
  ·right
   rw[if_pos q];exact⟨_,rfl,.inr ⟨i,rfl,by rw[q]; exact wC hi⟩⟩
  ·left
   rw[if_neg q];refine⟨(),rfl,fun hr=>?_⟩;rw[←wW hi]at hr;rcases wG.1 hr with h|h
   ·exact hI h
   ·exact q (by simpa using h)) (by
  rintro _ hI;rw[vH]at hI;exact⟨_,rfl,.inl ⟨rfl,hI⟩⟩)
 rw[g1,ob];rcases g2 with⟨rfl,h⟩|⟨m,rfl,h⟩
 ·simp[h]
 ·simp[h]
def farL(x:qc)(n:Nat)(t:Int):L1:=coll (if n=0 then 0 else dm x (n - 1)) fun j=> if t < lv x (n - 1) j then [(j:Int)]else []
theorem mem_farL{x:qc}{n:Nat}{t v:Int}(h:v∈farL x n t):n≠0∧∃j,j < dm x (n - 1)∧v=(j:Int):=by
 unfold farL at h;rw[mem_coll]at h;obtain⟨j,h1,h2⟩:=h;split at h1
 ·omega
 ·rename_i hn
  split at h2
  ·exact⟨hn,j,h1,by simpa using h2⟩
  ·simp at h2
theorem farL_len{x:qc}(h:qx x){n:Nat}(hn:n≤x.L.length){t:Int}:(farL x n t).length≤8:=by
 have h1:(farL x n t).length≤if n=0 then 0 else dm x (n - 1):=coll_len (fun j=> one_len _) _
 split at h1
 ·omega
 ·have:=zA h (n:=n - 1) (by omega)
  omega
theorem F184_1_eq{x:qc}(hs:qG x)(h:qx x){n:Nat}(hn:n≤x.L.length){r q:Int}(hr: -100≤r∧r≤100)(hq: -100≤q∧q≤100)(k:L1):
  ∃d,(chk ((n:Int) - 1))=some ((n:Int) - 1)∧F102 x.C ((n:Int) - 1)=some d∧forR 0 d (F184_1_B x r (n:Int) q k d) (F184_1_D x r (n:Int) q k d) []=some (farL x n (q - r)):=by
 have hll:=hs.l;have hl:=h.ll;rcases Nat.eq_zero_or_pos n with h0|h0
 ·subst h0
  refine⟨0,qn (by omega) (by omega),?_,?_⟩
  ·unfold F102
   rw[jV hs.c.d,ob,xx,ob,if_neg (by simp)]
  ·rfl
 ·obtain⟨m,rfl⟩:∃m,n=m+1:=⟨n - 1,by omega⟩
  have hm:m < x.L.length:=by omega
  have hd:=zA h hm;have e:((m+1:Nat):Int) - 1=(m:Int):=by omega
  refine⟨(dm x m:Int),qn (by omega) (by omega),by rw[e,F102_dm hs h hm],?_⟩;have hk:=xq (x:=x) (n:=m) (q:=q - r);unfold farL;rw[if_neg (by omega),vC];refine xV _ (by omega) (fun j=> one_len _) (fun i s hi hls=>?_) (by intro i s; rfl);unfold F184_1_B;rw[qn (by omega) (by omega),ob,qn (by omega) (by omega),ob,e,F202_eq hs h hm,ob,F203_eq (by omega),ob];by_cases c:q - r < lv x m i
  ·rw[if_neg (by simp only[decide_eq_true_eq]; rw[jp]; rintro⟨j, -,h2,h3⟩; have:i=j:=(by omega); subst this; omega),if_pos c,qJ (by simp; omega) (by simp; omega),ob]
  ·rw[if_pos (by simp only[decide_eq_true_eq]; rw[jp]; exact⟨i,hi,by omega,rfl⟩),if_neg c,vK]
def rowF(x:qc)(n:Nat)(t:Int)(i:Int):L1:=(farL x n t).map fun j=> nth (qE (mt x n) i.toNat) j.toNat
def rowsF(x:qc)(n:Nat)(r q:Int):aJ:=(qH x n q).map (rowF x n (q - r))
theorem mt_ok{x:qc}(h:qx x){m:Nat}(hm:m+1 < x.L.length):m < x.C.M.length∧(mt x (m+1)).length=dm x (m+1)∧Rows x.C.P (dm x m) (mt x (m+1)):=by
 have hml:=h.vc.ml;have hl:=h.ll;have h1:m < x.C.M.length:=by omega
 have ht:=h.vc.tab m h1;have hd:=zA h hm;refine⟨h1,?_,fun r hr=>(ht.2 r hr).vec⟩;have h2:=ht.1;rw[hd.1]at h2;show(x.C.M.getD (m+1 - 1) []).length=_;rw[vC]; omega
theorem keep_get{x:qc}{n:Nat}{q:Int}{k:Nat}(hk:k < (qH x n q).length):∃i,i < dm x n∧(qH x n q)[k]=(i:Int):=by
 obtain⟨i,h1, -,h2⟩:=jp.1 (wC hk);exact⟨i,h1,h2⟩
theorem far_get{x:qc}{n:Nat}{t:Int}{k:Nat}(hk:k < (farL x n t).length):n≠0∧∃j,j < dm x (n - 1)∧(farL x n t)[k]=(j:Int):=mem_farL (wC hk)
theorem nth_mapg{α:Type}{l:List α}{g:α→Int}{j:Nat}(hj:j < l.length):nth (l.map g) j=g l[j]:=by simp[nth,hj]
theorem rowsF_ok{x:qc}(h:qx x){n:Nat}(hn:n≤x.L.length)(r q:Int)(hk:n=x.L.length→qH x n q=[]):Rows x.C.P (farL x n (q - r)).length (rowsF x n r q):=by
 intro row hrow;unfold rowsF at hrow;obtain⟨v,hv,rfl⟩:=wL.1 hrow;obtain⟨i,hi, -,rfl⟩:=jp.1 hv;have hn':n < x.L.length:=by
  rcases vB n x.L.length with c|c
  ·exact c
  ·rw[hk (by omega)]at hv; simp at hv
 refine⟨by simp[rowF],fun j hj=>?_⟩;unfold rowF;rw[nth_mapg hj];obtain⟨n0,c,hc,hce⟩:=far_get hj;rw[hce,wQ,wQ];obtain⟨m,rfl⟩:∃m,n=m+1:=⟨n - 1,by omega⟩;obtain⟨-,h2,h3⟩:=mt_ok h hn';have h4:=h3 _ (zJ (show i < (mt x (m+1)).length by omega));exact h4.rng c (by simpa using hc)
theorem F280_2_eq{x:qc}(hs:qG x)(h:qx x){n:Nat}(hn:n < x.L.length){r q:Int}(hr: -100≤r∧r≤100)(hq: -100≤q∧q≤100)(d:Int)(m5:aJ)(rn:n≠0→m5=mt x n)(o:aJ){k:Nat}(hk:k < (qH x n q).length):
  qY (F280_2_S x r (n:Int) q d (qH x n q) m5 o (k:Int)) ([],0)=some (rowF x n (q - r) (qH x n q)[k]):=by
 obtain⟨i,hi,hie⟩:=keep_get hk;unfold rowF farL;rw[coll_map];refine loopW_coll _ (fun j=> by rw[vM]; exact one_len _) (fun j s hj hl=>?_) fun s=>?_
 ·split at hj
  ·omega
  ·rename_i n0
   obtain⟨m,rfl⟩:∃m,n=m+1:=⟨n - 1,by omega⟩;have hm:m < x.L.length:=by omega
   have dw:=hs.l;obtain⟨h1,h2,h3⟩:=mt_ok h hn;have hd:=zA h hm;rw[vC]at hj;have e:((m+1:Nat):Int) - 1=(m:Int):=by omega
   have hrow:=h3 _ (zJ (show i < (mt x (m+1)).length by omega));have hrl:=hrow.len;have rm:=rn n0;subst rm;unfold F280_2_S;simp only;rw[if_pos (by omega),qn (by omega) (by omega),ob,e,F99_dm hs h hm,ob,if_pos (by omega),F77_lv h hm hj,ob,qn (by omega) (by omega),ob,vC];by_cases c:q - r < lv x m j
   ·rw[if_pos c,if_pos c,qr hk,ob,hie,qk (show i < (mt x (m+1)).length by omega) [],ob,qk (show j < ((mt x (m+1)).getD i []).length by unfold qE at hrl; omega) 0,ob,qJ (by simp; omega) (by simp; omega),ob,qn (by omega) (by omega),ob]
    rfl
   ·rw[if_neg c,if_neg c,qn (by omega) (by omega),ob,List.map_nil,vK]
 ·unfold F280_2_S
  simp only;by_cases n0:n=0
  ·subst n0
   rw[if_neg (by simp)]
  ·obtain⟨m,rfl⟩:∃m,n=m+1:=⟨n - 1,by omega⟩
   have hm:m < x.L.length:=by omega
   have dw:=hs.l;have e:((m+1:Nat):Int) - 1=(m:Int):=by omega
   rw[if_pos (by omega),qn (by omega) (by omega),ob,e,F99_dm hs h hm,ob,if_neg n0,vC,if_neg (by omega)]
theorem F280_1_eq{x:qc}(hs:qG x)(h:qx x){n:Nat}(hn:n < x.L.length){r q:Int}(hr: -100≤r∧r≤100)(hq: -100≤q∧q≤100)(d:Int)(m5:aJ)(rn:n≠0→m5=mt x n):
  forR 0 ((qH x n q).length:Int) (F280_1_B x r (n:Int) q d (qH x n q) m5) (F280_1_D x r (n:Int) q d (qH x n q) m5) []=some (rowsF x n r q):=by
 have hk:=xq (x:=x) (n:=n) (q:=q);have hd:=zA h hn;rw[jA (rowF x n (q - r)) (by omega) (fun k hk s hsl=> by
  unfold F280_1_B;rw[F280_2_eq hs h hn hr hq d m5 rn s hk,ob,qJ (by simp; simp at hsl; omega) (by simp; simp at hsl; omega),ob]) (by intro i s; rfl)]
 rfl
theorem F184_2_eq{x:qc}(hs:qG x)(h:qx x){n:Nat}(hn:n < x.L.length)(r q:Int):
  forR 0 ((qH x n q).length:Int) (F184_2_B x (n:Int) (qH x n q) (farL x n (q - r))) (F184_2_D x (n:Int) (qH x n q) (farL x n (q - r))) []=some (rowsF x n r q):=by
 have hk:=xq (x:=x) (n:=n) (q:=q);have hd:=zA h hn;have hfl:=farL_len h (n:=n) (by omega) (t:=q - r);rw[jA (rowF x n (q - r)) (by omega) (fun k hk s hsl=> by
  obtain⟨i,hi,hie⟩:=keep_get hk;unfold F184_2_B;rw[qr hk,ob,hie,jA (l:=farL x n (q - r)) (fun j=> nth (qE (mt x n) i) j.toNat) (by omega) (fun c hc s2 oD=> by
   obtain⟨n0,j,hj,hje⟩:=far_get hc;obtain⟨m,rfl⟩:∃m,n=m+1:=⟨n - 1,by omega⟩;rw[vC]at hj;have dw:=hs.l;obtain⟨h1,h2,h3⟩:=mt_ok h hn;have hrl:=(h3 _ (zJ (show i < (mt x (m+1)).length by omega))).len;have e:((m+1:Nat):Int) - 1=(m:Int):=by omega
   unfold F184_3_B;rw[qr hc,ob,qn (by omega) (by omega),ob,e,qk h1 [],ob,show x.C.M.getD m []=mt x (m+1) from rfl,qk (show i < (mt x (m+1)).length by omega) [],ob,hje,qk (show j < ((mt x (m+1)).getD i []).length by unfold qE at hrl; omega) 0,ob,qJ (by simp; simp at oD; omega) (by simp; simp at oD; omega),ob];rfl) (by intro i s; rfl),ob,vN,qJ (by simp; simp at hsl; omega) (by simp; simp at hsl; omega),ob]
  rfl) (by intro i s; rfl)]
 rfl
def xK(keep:L1)(row:L1)(w:Nat):Nat→L1
 |0=> zv w
 |k+1=>(xK keep row w k).set (keep.getD k 0).toNat (nth row k)
theorem jl{keep row:L1}{w:Nat}:∀k,(xK keep row w k).length=w
 |0=> by simp[xK,zv]
 |k+1=> by rw[xK,yD]; exact jl k
theorem nth_set{l:L1}{i:Nat}{v:Int}(j:Nat):nth (l.set i v) j=if i=j∧j < l.length then v else nth l j:=by
 unfold nth;rw[gC,gN,gC];by_cases h1:i=j
 ·subst h1
  by_cases h2:i < l.length
  ·simp[h2]
  ·simp[h2]
 ·simp[h1]
theorem wideN_ok{p:Int}(hp:0 < p){keep row:L1}{w m:Nat}(hr:qP p m row):∀k,k≤m→qP p w (xK keep row w k)
 |0,_=> jc hp w
 |k+1,hk=>⟨jl _,fun j hj=> by
   have ih:=(wideN_ok hp (keep:=keep) hr k (by omega)).rng j hj;rw[xK,nth_set];split
   ·exact hr.rng k (by omega)
   ·exact ih⟩
def wides(keep:L1)(w:Nat)(K:aJ):aJ:=K.map fun row=> xK keep row w keep.length
theorem wide_loop{keep row:L1}{w:Nat}(hk:keep.length≤1000000)(hv:∀v∈keep,0≤v∧v < w){B:Int→L1→Option (L1⊕L1)}{D:Int→L1→Option L1}
  (hB:∀ (k:Nat) (s:L1),k < keep.length→s.length=w→B k s=some (.inl (s.set (keep.getD k 0).toNat (nth row k)))) (hD:∀i s,D i s=some s):forR 0 (keep.length:Int) B D (zv w)=some (xK keep row w keep.length):=by
 have hlen:keep.length < 4611686018427387904:=by omega
 obtain⟨t,g1,g2⟩:=qu (B:=B) (D:=D) keep.length rfl hlen (fun i s=> s=xK keep row w i) (fun t=> t=xK keep row w keep.length) (s:=zv w) rfl (by
  rintro i s hi rfl;exact .inl ⟨_,hB i _ hi (jl i),rfl⟩) (by
  rintro s rfl;exact⟨_,hD _ _,rfl⟩)
 rw[g1,g2]
theorem F311_eq{keep:L1}{w:Nat}{K:aJ}(hk:keep.length≤1000)(hw:w≤1000)(hK:K.length≤1000)(hv:∀v∈keep,0≤v∧v < w)(hr:∀r∈K,r.length=keep.length):F311 K keep (w:Int)=some (wides keep w K):=by
 unfold F311;rw[jA (fun row=> xK keep row w keep.length) (by omega) (fun k hk2 s hsl=> by
  have hrl:=hr _ (wC hk2);unfold F311_1_B;rw[mkL_ok w rfl (by omega) (by omega),ob]
  change (forR 0 (keep.length:Int) _ _ (zv w)).bind _=_
  rw[wide_loop (row:=K[k]) (by omega) hv (by
   intro j s2 hj oD;have hvj:=hv _ (qz hj 0);obtain⟨c,hc⟩:∃c:Nat,keep.getD j 0=c:=⟨(keep.getD j 0).toNat,by omega⟩;unfold F311_2_B;rw[qk hj 0,ob,qr hk2,ob,qr (show j < K[k].length by omega),ob,hc,qr (show c < s2.length by omega),ob,za (show c < s2.length by omega),ob,wQ,zd (by omega)]) (by intro i s; rfl),ob,qJ (by simp; simp at hsl; omega) (by simp; simp at hsl; omega),ob]) (by intro i s; rfl),ob]
 rfl
theorem F184_4_eq{x:qc}(hs:qG x)(h:qx x){n:Nat}(hn:n < x.L.length){keep far:L1}{K:aJ}(hk:keep.length≤1000)(hK:K.length≤1000)(hv:∀v∈keep,0≤v∧v < dm x n)(hr:∀r∈K,r.length=keep.length):
  forR 0 (K.length:Int) (F184_4_B x (n:Int) keep far K) (F184_4_D x (n:Int) keep far K) []=some (wides keep (dm x n) K):=by
 have hd:=zA h hn;rw[jA (fun row=> xK keep row (dm x n) keep.length) (by omega) (fun k hk2 s hsl=> by
  have hrl:=hr _ (wC hk2);unfold F184_4_B;rw[qr hk2,ob,F102_dm hs h hn,ob,mkL_ok (dm x n) rfl (by omega) (by omega),ob]
  change (forR 0 (keep.length:Int) _ _ (zv (dm x n))).bind _=_
  rw[wide_loop (row:=K[k]) (by omega) hv (by
   intro j s2 hj oD;have hvj:=hv _ (qz hj 0);obtain⟨c,hc⟩:∃c:Nat,keep.getD j 0=c:=⟨(keep.getD j 0).toNat,by omega⟩;unfold F184_5_B;rw[qk hj 0,ob,qr (show j < K[k].length by omega),ob,hc,qr (show c < s2.length by omega),ob,za (show c < s2.length by omega),ob,wQ,zd (by omega)]) (by intro i s; rfl),ob,qJ (by simp; simp at hsl; omega) (by simp; simp at hsl; omega),ob]) (by intro i s; rfl)]
 rfl
theorem F76_at{x:qc}(hs:qG x)(h:qx x){n:Nat}(hn:n < x.L.length):∃m,F76 x.C (n:Int)=some m∧(n≠0→m=mt x n):=by
 have hl:=h.ll;have hd:=zA h hn;rcases Nat.eq_zero_or_pos n with h0|h0
 ·subst h0
  exact⟨_,F76_0 hs.c.d (by omega) hd.1 (by omega),fun h=> absurd rfl h⟩
 ·obtain⟨m,rfl⟩:∃m,n=m+1:=⟨n - 1,by omega⟩
  exact⟨_,F76_eq hs.c.d (by omega) (by have:=h.vc.ml; omega),fun _=> rfl⟩
theorem zR{x:qc}(hs:qG x)(h:qx x){n:Nat}(hn:n < x.L.length){r q:Int}(hr: -100≤r∧r≤100)(hq: -100≤q∧q≤100):
  ∃N,F184 x r (n:Int) q=some N∧F280 x r (n:Int) q=some N∧Red x.C.P (dm x n) N:=by
 have hp:=h.vc.p;have dA:1 < x.C.P:=by have:=hp.range; omega
 have hd:=zA h hn;have hk:=xq (x:=x) (n:=n) (q:=q);have hf:=farL_len h (n:=n) (by omega) (t:=q - r);obtain⟨d,c1,c2,c3⟩:=F184_1_eq hs h (n:=n) (by omega) hr hq (qH x n q);obtain⟨m,m1,m2⟩:=F76_at hs h hn;have hrl:(rowsF x n r q).length=(qH x n q).length:=by simp[rowsF]
 have hrows:=rowsF_ok h (n:=n) (by omega) r q (fun e=> by omega);obtain⟨K,k1,k2,k3⟩:=kernel_same hp hrows (by omega) (by omega);rw[hrl]at k1 k3;have hKl:=zg k3;have hv:∀v∈qH x n q,0≤v∧v < dm x n:=fun v hv=> by
  obtain⟨j,h1, -,rfl⟩:=jp.1 hv;omega
 have hKr:∀r∈K,r.length=(qH x n q).length:=fun r hr=>(k3.ok r hr).len;have hw:Rows x.C.P (dm x n) (wides (qH x n q) (dm x n) K):=fun r hr=> by
  obtain⟨row,hrow,rfl⟩:=wL.1 hr;exact wideN_ok (by omega) (k3.ok row hrow) _ (wE _)
 have hwl:(wides (qH x n q) (dm x n) K).length=K.length:=by simp[wides]
 obtain⟨N,n1,n2,n3⟩:=qN hp hw (by omega) (by omega);refine⟨N,?_,?_,n3.red⟩
 ·unfold F184
  rw[F202_eq hs h hn,ob,c1,ob,c2,ob,c3,ob,F184_2_eq hs h hn,ob,k2,ob,F184_4_eq hs h hn (by omega) (by omega) hv hKr,ob,n2,ob]
 ·unfold F280
  rw[F99_dm hs h hn,ob,F310_eq hs h hn,ob,m1,ob,F280_1_eq hs h hn hr hq _ m m2,ob,k1,ob,F311_eq (by omega) (by omega) (by omega) hv hKr,ob,n1,ob]
theorem near_top{x:qc}(hs:qG x)(h:qx x){r q:Int}(hr: -100≤r∧r≤100)(hq: -100≤q∧q≤100):F184 x r (x.L.length:Int) q=some []:=by
 have hp:=h.vc.p;have dA:1 < x.C.P:=by have:=hp.range; omega
 obtain⟨d,c1,c2,c3⟩:=F184_1_eq hs h (n:=x.L.length) (wE _) hr hq [];obtain⟨K, -,k2,k3⟩:=kernel_same (p:=x.C.P) (w:=0) hp (rows:=[]) (fun r hr=>(nomatch hr)) (by omega) (by simp);have hK:K=[]:=by have:=zg k3; simpa using this
 subst hK;obtain⟨N, -,n2,n3⟩:=qN (p:=x.C.P) (w:=0) hp (rows:=[]) (fun r hr=>(nomatch hr)) (by omega) (by simp);have hN:N=[]:=wY (by have:=zg n3.red; omega);subst hN;unfold F184;rw[F202_out hs h (.inr (vV _)),ob,c1,ob,c2,ob,c3,ob]
 change ((some []).bind _)=_
 rw[ob,k2,ob]
 change ((some []).bind _)=_
 rw[ob,n2,ob]
def low(x:qc)(n:Nat)(N:aJ):aJ:=N.map fun v=> lin x.C.P (dm x n) v (mt x (n+1))
theorem low_lin{x:qc}(h:qx x){n:Nat}(hn:n+1 < x.L.length){N:aJ}(hN:Red x.C.P (dm x (n+1)) N){v:L1}(hv:v∈N):LinOK x.C.P (dm x n) v (mt x (n+1)):=by
 obtain⟨h1,h2,h3⟩:=mt_ok h hn;have hd:=zA h (n:=n) (by omega);have pQ:=zA h hn;have hv':=hN.ok v hv;have hvl:=hv'.len;refine⟨h.vc.p.range,fun y hy=>?_,by omega,fun l hl=>⟨(h3 l hl).len,fun y hy=>?_⟩,by omega,by omega⟩
 ·obtain⟨k,hk,rfl⟩:=wN hy
  have:=hv'.rng k (by omega)
  rwa[zd hk]at this
 ·have hl':=h3 l hl
  have hll:=hl'.len;obtain⟨k,hk,rfl⟩:=wN hy;have:=hl'.rng k (by omega)
  rwa[zd hk]at this
theorem low_ok{x:qc}(h:qx x){n:Nat}(hn:n+1 < x.L.length){N:aJ}(hN:Red x.C.P (dm x (n+1)) N):Rows x.C.P (dm x n) (low x n N):=by
 intro r hr;obtain⟨v,hv,rfl⟩:=wL.1 hr;have H:=low_lin h hn hN hv;have hok:=linN_ok H v.length (wE _);refine⟨hok.1,fun j hj=>?_⟩;have hj':j < (lin x.C.P (dm x n) v (mt x (n+1))).length:=by rw[lin_len H]; exact hj
 rw[zd hj'];exact hok.2 _ (wC hj')
theorem F281_eq{x:qc}(hs:qG x)(h:qx x){n:Nat}(hn:n+1 < x.L.length){N:aJ}(hN:Red x.C.P (dm x (n+1)) N):F281 x ((n+1:Nat):Int) N=some (low x n N):=by
 have hl:=h.ll;have hNl:=zg hN;have hsl:=hs.l;have pQ:=zA h hn;unfold F281;rw[jA (fun v=> lin x.C.P (dm x n) v (mt x (n+1))) (by omega) (fun k hk s j6=> by
  unfold F281_1_B;have e:F76 x.C ((n+1:Nat):Int)=some (mt x (n+1)):=F76_eq hs.c.d (by omega) (by have:=h.vc.ml; omega);rw[e,ob,qr hk,ob,qn (by omega) (by omega),ob,show((n+1:Nat):Int) - 1=(n:Int) by omega,F99_dm hs h (by omega),ob,F80_eq (low_lin h hn hN (wC hk)) rfl,ob,qJ (by simp; simp at j6; omega) (by simp; simp at j6; omega),ob]) (by intro i s; rfl),ob]
 rfl
theorem F185_1_eq{x:qc}(hs:qG x)(h:qx x){n:Nat}(hn:n+1 < x.L.length){N A:aJ}(hN:Red x.C.P (dm x (n+1)) N)(hA:A.length≤1000):
  forR 0 (N.length:Int) (F185_1_B x (n:Int) N) (F185_1_D x (n:Int) N) A=some (A++low x n N):=by
 have hl:=h.ll;have hNl:=zg hN;have hsl:=hs.l;have pQ:=zA h hn;rw[jA (fun v=> lin x.C.P (dm x n) v (mt x (n+1))) (by omega) (fun k hk s j6=> by
  have hd:=zA h (n:=n) (by omega);unfold F185_1_B F91;rw[qr hk,ob,qn (by omega) (by omega),ob,if_neg (by omega),jV hs.c.d,ob,if_neg (by omega),qn (by omega) (by omega),ob,show((n:Int)+1 - 1)=(n:Int) by omega,qk (show n < x.C.D.length by omega) 0,ob,qk (show n < x.C.M.length by have:=h.vc.ml; omega) [],ob,hd.1]
  change (((F119 _ _ _ (mt x (n+1))).bind _).bind _)=_
  rw[F119_eq (low_lin h hn hN (wC hk)) rfl,ob,ob,qJ (by simp; omega) (by simp; omega),ob]) (by intro i s; rfl)]
 rfl
theorem bottom_same{x:qc}(hs:qG x)(h:qx x){n:Nat}(hn:n < x.L.length){r q:Int}(hr: -40≤r∧r≤40)(hq: -40≤q∧q≤40):
  ∃N,F185 x r (n:Int) q=some N∧F279 x r (n:Int) q=some N∧Red x.C.P (dm x n) N:=by
 have hp:=h.vc.p;have hd:=zA h hn;have hsl:=hs.l;obtain⟨A,a1,a2,a3⟩:=zR hs h hn (r:=r - 1) (q:=q - 1) (by omega) (by omega);have hAl:=zg a3;unfold F185 F279;rw[qn (by omega) (by omega),ob,ob,qn (by omega) (by omega),ob,ob,a1,a2,ob,ob,qJ (by simp; omega) (by simp; omega),ob,qn (by omega) (by omega),ob,ob,qn (by omega) (by omega),ob,qn (by omega) (by omega),ob,vN];by_cases c:n+1 < x.L.length
 ·obtain⟨B,b1,b2,b3⟩:=zR hs h c (r:=r - 1) (q:=q+r - 1) (by omega) (by omega)
  have hBl:=zg b3;have pQ:=zA h c;have e:(n:Int)+1=((n+1:Nat):Int):=by omega
  have hrows:Rows x.C.P (dm x n) (A++low x n B):=fun v hv=> by
   rcases wG.1 hv with hv|hv
   ·exact a3.ok v hv
   ·exact low_ok h c b3 v hv
  have hll:(low x n B).length=B.length:=by simp[low]
  obtain⟨N,n1,n2,n3⟩:=qN hp hrows (by omega) (by rw[wM]; omega);refine⟨N,?_,?_,n3.red⟩
  ·rw[e,b1,ob,F185_1_eq hs h c b3 (by omega),ob,n2,ob]
  ·rw[if_pos (by omega),ob,qn (by omega) (by omega),ob,e,b2,ob,F281_eq hs h c b3,ob,qJ (by omega) (by omega),ob,n1,ob]
 ·have hnl:(n:Int)+1=(x.L.length:Int):=by omega
  obtain⟨N,n1,n2,n3⟩:=qN hp a3.ok (by omega) (by omega);rw[if_neg (by omega),hnl,near_top hs h (by omega) (by omega),ob];refine⟨N,?_,?_,n3.red⟩
  ·change ((some A).bind _)=_
   rw[ob,n2,ob]
  ·rw[n1,ob]
theorem number_same{x:qc}(hs:qG x)(h:qx x){n:Nat}(hn:n < x.L.length){r q:Int}(hr: -40≤r∧r≤40)(hq: -40≤q∧q≤40):F169 x r (n:Int) q=some ((F169 x r (n:Int) q).getD 0)∧F297 x r (n:Int) q=some ((F169 x r (n:Int) q).getD 0):=by
 have hd:=zA h hn;obtain⟨A,a1,a2,a3⟩:=zR hs h hn (r:=r) (q:=q) (by omega) (by omega);obtain⟨B,b1,b2,b3⟩:=bottom_same hs h hn hr hq;have hAl:=zg a3;have hBl:=zg b3;have e1:F169 x r (n:Int) q=some ((A.length:Int) - (B.length:Int)):=by
  unfold F169;rw[a1,ob,b1,ob,qn (by omega) (by omega),ob]
 have e2:F297 x r (n:Int) q=some ((A.length:Int) - (B.length:Int)):=by
  unfold F297;rw[a2,ob,b2,ob,qn (by omega) (by omega),ob]
 rw[e1,e2];exact⟨rfl,rfl⟩
theorem IsP.inv{p:Int}(hp:IsP p):HasInv p:=by
 intro a h0 h1;have key:∀k m:Int,a*k=1+p*m→∃k,Cg p (a*k) 1:=fun k m e=>⟨k,m,by omega⟩;unfold IsP at hp;rcases hp with rfl|rfl|rfl|rfl
 ·have:a=1:=by omega
  subst this; exact key 1 0 (by decide)
 ·have:a=1∨a=2:=by omega
  rcases this with rfl|rfl
  ·exact key 1 0 (by decide)
  ·exact key 2 1 (by decide)
 ·have:a=1∨a=2∨a=3∨a=4:=by omega
  rcases this with rfl|rfl|rfl|rfl
  ·exact key 1 0 (by decide)
  ·exact key 3 1 (by decide)
  ·exact key 2 1 (by decide)
  ·exact key 4 3 (by decide)
 ·have:a=1∨a=2∨a=3∨a=4∨a=5∨a=6:=by omega
  rcases this with rfl|rfl|rfl|rfl|rfl|rfl
  ·exact key 1 0 (by decide)
  ·exact key 4 1 (by decide)
  ·exact key 5 2 (by decide)
  ·exact key 2 1 (by decide)
  ·exact key 3 2 (by decide)
  ·exact key 6 5 (by decide)
theorem kz{p:Int}{w:Nat}(hp:IsP p){rows:aJ}(hr:Rows p w rows)(hw:w≤1000)(hn:rows.length≤1000):∃K,F122 p rows.length rows=some K∧F125 p rows=some K∧Red p rows.length K∧∀c,Sp p rows.length K c↔qP p rows.length c∧∀j,j < w→Cg p (dot (nth c) rows rows.length j) 0:=by
 have dA:1 < p:=by have:=hp.range; omega
 unfold F122 F125;rw[F122_1_eq hr hw hn,ob];simp only;by_cases h0:rows.length=0
 ·have:rows=[]:=wY h0
  subst this;have e:(jG ([]:aJ).length [])=[]:=by simp[jG]
  obtain⟨E,e1, -,e3⟩:=qN hp (rows:=[]) (w:=0+0) (fun r h=>(nomatch h)) (by omega) (by simp);have hE:E=[]:=wY (by have:=zg e3.red; omega);subst hE;rw[e,e1,ob,if_pos (by simp),if_pos (by simp)];have:=F122_2_eq (w:=0) (n:=0) e3.red (by omega);have h2:forR 0 ((([]:aJ).length:Nat):Int) (xJ 0 []) (kL 0 []) []=some []:=this;rw[h2];refine⟨[],rfl,rfl,⟨fun r h=>(nomatch h),fun r h=>(nomatch h),.nil⟩,fun c=>⟨fun hc=>⟨hc.ok (by omega) (fun r h=> absurd h yL),fun j _=> .refl _ _⟩,fun hc=>?_⟩⟩;have:c=zv 0:=wY hc.1.len;rw[this];exact .zero
 ·rw[if_neg h0,if_neg (by omega)]
  obtain⟨E,e1,e2,e3⟩:=qN hp (longs_ok dA hr) (by omega) (by rw[longs_len]; omega);have hpos:0 < rows.length:=by omega
  have dq:=(hr _ (wC hpos)).len;have ht:=tails_red e3.red;rw[show(0:Int)=((0:Nat):Int) from rfl,qr hpos,ob,show((0:Nat):Int)=(0:Int) from rfl,e1,ob,F122_2_eq e3.red (by omega),ob,F125_1_eq hr dq hw hn,ob,e2,ob,F125_2_eq e3.red (by omega) dq,ob,F133_self hp ht (by omega) (by have:=zg ht; omega),ob];exact⟨_,rfl,rfl,ht,fun c=> kernel_sp dA hr e3⟩
abbrev kf(c:Nat→Prop)[DecidablePred c](i:Nat):L1:=if c i then [(i:Int)]else []
theorem coll_get{c:Nat→Prop}[DecidablePred c]:∀ {n k:Nat},k < (coll n (kf c)).length→∃i,i < n∧c i∧(coll n (kf c)).getD k 0=(i:Int)∧(coll i (kf c)).length=k
 |0,k,h=> absurd h (by simp[coll])
 |n+1,k,h=> by
  rw[zZ]at h ⊢;by_cases q:k < (coll n (kf c)).length
  ·obtain⟨i,h1,h2,h3,h4⟩:=coll_get q
   refine⟨i,by omega,h2,?_,h4⟩;rw[←h3,gC,gB q,gC]
  ·by_cases hc:c n
   ·have e:kf c n=[(n:Int)]:=if_pos hc
    rw[e]at h ⊢;have hk:k=(coll n (kf c)).length:=by simp at h; omega
    subst hk;exact⟨n,by omega,hc,by rw[gC]; simp,rfl⟩
   ·have e:kf c n=[]:=if_neg hc
    rw[e,vK]at h;exact absurd h q
theorem coll_at{c:Nat→Prop}[DecidablePred c]{i:Nat}(hc:c i):∀ {n:Nat},i < n→(coll i (kf c)).length < (coll n (kf c)).length∧(coll n (kf c)).getD (coll i (kf c)).length 0=(i:Int)
 |0,h=> absurd h (yQ _)
 |n+1,h=> by
  rw[zZ];by_cases q:i=n
  ·subst q
   have e:kf c i=[(i:Int)]:=if_pos hc;rw[e];exact⟨by simp,by rw[gC]; simp⟩
  ·obtain⟨h1,h2⟩:=coll_at hc (n:=n) (by omega)
   refine⟨by rw[wM]; omega,?_⟩;rw[←h2,gC,gB h1,gC]
theorem wide_at{w:Nat}{c:Nat→Prop}[DecidablePred c]{cc:L1}{i:Nat}(hi:i < w):∀ {k:Nat},k≤(coll w (kf c)).length→nth (xK (coll w (kf c)) cc w k) i=if c i∧(coll i (kf c)).length < k then nth cc (coll i (kf c)).length else 0
 |0,_=> by rw[xK,zn,if_neg (by omega)]
 |k+1,hk=> by
  obtain⟨i',h1,h2,h3,h4⟩:=coll_get (c:=c) (n:=w) (k:=k) (by omega);rw[xK,nth_set,h3,wQ,jl,wide_at hi (by omega)];by_cases q:i'=i
  ·subst q
   rw[if_pos ⟨rfl,hi⟩,if_pos ⟨h2,by omega⟩,h4]
  ·rw[if_neg (by omega)]
   by_cases e:c i∧(coll i (kf c)).length < k
   ·rw[if_pos e,if_pos ⟨e.1,by omega⟩]
   ·rw[if_neg e,if_neg]
    rintro⟨e1,e2⟩;have e3:(coll i (kf c)).length=k:=by
     have:¬(coll i (kf c)).length < k:=fun q=> e ⟨e1,q⟩;omega
    have h5:=(coll_at e1 hi).2;rw[e3,h3]at h5;omega
theorem wide_lin{p:Int}{w:Nat}{c:Nat→Prop}[DecidablePred c](hp:0 < p):Lin p (coll w (kf c)).length w fun cc=> xK (coll w (kf c)) cc w (coll w (kf c)).length:=by
 refine⟨fun u hu=> wideN_ok hp hu _ (wE _),fun u v k hu hv=>?_⟩;refine nth_ext (by simp[subv,jl]) fun i hi=>?_;rw[jl]at hi;rw[wide_at hi (wE _),zK (jl _) (jl _) hi,wide_at hi (wE _),wide_at hi (wE _)];by_cases e:c i∧(coll i (kf c)).length < (coll w (kf c)).length
 ·rw[if_pos e,if_pos e,if_pos e,zK hu.len hv.len e.2]
 ·rw[if_neg e,if_neg e,if_neg e]; simp
theorem dot_kept{c:Nat→Prop}[DecidablePred c]{g:Nat→Int}{m:aJ}{j n:Nat}:∀ {d:Nat},d≤n→dot (fun i=> if c i then g (coll i (kf c)).length else 0) m d j=sumI (fun k=> g k*nth (qE m ((coll n (kf c)).getD k 0).toNat) j) (coll d (kf c)).length
 |0,_=> by simp[dot,sumI,coll]
 |d+1,hd=> by
  have ih:=dot_kept (c:=c) (g:=g) (m:=m) (j:=j) (n:=n) (d:=d) (by omega);unfold dot at ih ⊢;show sumI _ d+_=_;rw[ih,zZ];simp only;by_cases hc:c d
  ·have e:kf c d=[(d:Int)]:=if_pos hc
   have h2:=(coll_at hc (n:=n) (by omega)).2;rw[e,if_pos hc,wM,List.length_singleton];show _=sumI _ _+_;simp only;rw[h2,wQ]
  ·have e:kf c d=[]:=if_neg hc
   rw[e,if_neg hc,vK]; simp
def NearP(x:qc)(r:Int)(n:Nat)(q:Int)(v:L1):Prop:=
 qP x.C.P (dm x n) v∧(∀i,i < dm x n→q < lv x n i→nth v i=0)∧(n≠0→∀j,j < dm x (n - 1)→q - r < lv x (n - 1) j→Cg x.C.P (dot (nth v) (mt x n) (dm x n) j) 0)
theorem near_sp{x:qc}(hs:qG x)(h:qx x){n:Nat}(hn:n < x.L.length){r q:Int}(hr: -100≤r∧r≤100)(hq: -100≤q∧q≤100){N:aJ}(hN:F184 x r (n:Int) q=some N):∀v,Sp x.C.P (dm x n) N v↔NearP x r n q v:=by
 have hp:=h.vc.p;have aK:0 < x.C.P:=by have:=hp.range; omega
 have hd:=zA h hn;have hk:=xq (x:=x) (n:=n) (q:=q);have hf:=farL_len h (n:=n) (by omega) (t:=q - r);obtain⟨d,c1,c2,c3⟩:=F184_1_eq hs h (n:=n) (by omega) hr hq (qH x n q);have hrl:(rowsF x n r q).length=(qH x n q).length:=by simp[rowsF]
 have hrows:=rowsF_ok h (n:=n) (by omega) r q (fun e=> by omega);obtain⟨K,k1,k2,k3,k4⟩:=kz hp hrows (by omega) (by omega);rw[hrl]at k1 k3 k4;have hKl:=zg k3;have hv:∀v∈qH x n q,0≤v∧v < dm x n:=fun v hv=> by
  obtain⟨j,h1, -,rfl⟩:=jp.1 hv;omega
 have hKr:∀r∈K,r.length=(qH x n q).length:=fun r hr=>(k3.ok r hr).len;have hw:Rows x.C.P (dm x n) (wides (qH x n q) (dm x n) K):=fun r hr=> by
  obtain⟨row,hrow,rfl⟩:=wL.1 hr;exact wideN_ok aK (k3.ok row hrow) _ (wE _)
 have hwl:(wides (qH x n q) (dm x n) K).length=K.length:=by simp[wides]
 obtain⟨N', -,n2,n3⟩:=qN hp hw (by omega) (by omega);have e:F184 x r (n:Int) q=some N':=by
  unfold F184;rw[F202_eq hs h hn,ob,c1,ob,c2,ob,c3,ob,F184_2_eq hs h hn,ob,k2,ob,F184_4_eq hs h hn (by omega) (by omega) hv hKr,ob,n2,ob]
 rw[hN]at e;obtain rfl:=wA e;have hL:Lin x.C.P (qH x n q).length (dm x n) fun cc=> xK (qH x n q) cc (dm x n) (qH x n q).length:=wide_lin (c:=fun i=> lv x n i≤q) aK;have hat:∀ (cc:L1) (i:Nat),i < dm x n→nth (xK (qH x n q) cc (dm x n) (qH x n q).length) i=if lv x n i≤q then nth cc (coll i (kf fun i=> lv x n i≤q)).length else 0:=fun cc i hi=> by
  have:=wide_at (c:=fun i=> lv x n i≤q) (cc:=cc) hi (wE _);refine this.trans ?_;by_cases q1:lv x n i≤q
  ·rw[if_pos ⟨q1,(coll_at (c:=fun i=> lv x n i≤q) q1 hi).1⟩,if_pos q1]
  ·rw[if_neg (fun e=> q1 e.1),if_neg q1]
 -- the numbers at places far below
 have hdot:∀ (cc:L1) (jj:Nat) (hjj:jj < (farL x n (q - r)).length),dot (nth (xK (qH x n q) cc (dm x n) (qH x n q).length)) (mt x n) (dm x n) ((farL x n (q - r))[jj]).toNat=dot (nth cc) (rowsF x n r q) (qH x n q).length jj:=fun cc jj hjj=> by
  have h1:dot (nth (xK (qH x n q) cc (dm x n) (qH x n q).length)) (mt x n) (dm x n) ((farL x n (q - r))[jj]).toNat=dot (fun i=> if lv x n i≤q then nth cc (coll i (kf fun i=> lv x n i≤q)).length else 0) (mt x n) (dm x n) ((farL x n (q - r))[jj]).toNat:=zw fun i hi=> by rw[hat cc i hi]
  rw[h1,dot_kept (c:=fun i=> lv x n i≤q) (g:=nth cc) (wE (dm x n))];refine zw fun k hk2=>?_;have uT:k < (qH x n q).length:=hk2;have e1:qE (rowsF x n r q) k=rowF x n (q - r) (qH x n q)[k]:=by rw[qX (by rw[hrl]; exact uT)]; simp[rowsF]
  have e2:(coll (dm x n) (kf fun i=> lv x n i≤q)).getD k 0=(qH x n q)[k]:=by
   change (qH x n q).getD k 0=_
   simp[uT]
  rw[e1,e2];unfold rowF;rw[nth_mapg hjj]
 intro v;rw[n3.sp v];constructor
 ·intro hv'
  obtain⟨cc,s1,rfl⟩:=hL.lift aK (R:=K) k3.ok hv';obtain⟨s2,s3⟩:=(k4 cc).1 s1;refine⟨hL.ok cc s2,fun i hi hlt=>?_,fun n0 j hj hlt=>?_⟩
  ·rw[hat cc i hi,if_neg (by omega)]
  ·have hfe:farL x n (q - r)=coll (dm x (n - 1)) (kf fun j=> q - r < lv x (n - 1) j):=by unfold farL; rw[if_neg n0]
   obtain⟨f1,f2⟩:=coll_at (c:=fun j=> q - r < lv x (n - 1) j) hlt hj;rw[←hfe]at f1 f2;have f3:=s3 _ f1;rw[←hdot cc _ f1]at f3;have f4:(farL x n (q - r))[(coll j (kf fun j=> q - r < lv x (n - 1) j)).length]=(j:Int):=by
    rw[←f2]; simp[f1]
   rwa[f4,wQ]at f3
 ·rintro⟨v1,v2,v3⟩
  let cc:=(qH x n q).map fun i=> nth v i.toNat
  have hcc:qP x.C.P (qH x n q).length cc:=⟨by simp[cc],fun k hk2=> by
   obtain⟨i,hi,hie⟩:=keep_get hk2;rw[nth_mapg hk2,hie,wQ];exact v1.rng i hi⟩
  have hcv:xK (qH x n q) cc (dm x n) (qH x n q).length=v:=nth_ext (by rw[jl,v1.len]) fun i hi=> by
   rw[jl]at hi;rw[hat cc i hi];by_cases q1:lv x n i≤q
   ·obtain⟨f1,f2⟩:=coll_at (c:=fun i=> lv x n i≤q) q1 hi
    have rD:(coll i (kf fun i=> lv x n i≤q)).length < (qH x n q).length:=f1;have f2':(qH x n q)[(coll i (kf fun i=> lv x n i≤q)).length]=(i:Int):=by
     have:(qH x n q).getD (coll i (kf fun i=> lv x n i≤q)).length 0=(i:Int):=f2;rw[←this]; simp[rD]
    rw[if_pos q1,nth_mapg rD,f2',wQ]
   ·rw[if_neg q1,v2 i hi (by omega)]
  have hS:Sp x.C.P (qH x n q).length K cc:=(k4 cc).2 ⟨hcc,fun jj hjj=> by
   rw[←hdot cc jj hjj,hcv];obtain⟨n0,j,hj,hje⟩:=far_get hjj;have hjm:=wC hjj;have hlt:q - r < lv x (n - 1) j:=by
    rw[hje]at hjm;unfold farL at hjm;rw[if_neg n0,mem_coll]at hjm;obtain⟨j2, -,h2⟩:=hjm;split at h2
    ·rename_i q2
     have h3:(j:Int)=(j2:Int):=by simpa using h2
     have:j=j2:=by omega
     subst this; exact q2
    ·simp at h2
   rw[hje,wQ];exact v3 n0 j hj hlt⟩
  have:=hL.sp aK (R:=K) k3.ok hS;rw[hcv]at this;exact this
theorem lin_at{p:Int}{n:Nat}{v:L1}{m:aJ}(H:LinOK p n v m){j:Nat}(hj:j < n):Cg p (nth (lin p n v m) j) (dot (nth v) m v.length j):=by
 have key:∀i,i≤v.length→Cg p (nth (linN p n v m i) j) (dot (nth v) m i j):=by
  intro i;induction i with
  |zero=> intro _; simp only[linN]; rw[show nth (List.replicate n (0:Int)) j=0 from zn n j]; exact .refl _ _
  |succ i ih=>
   intro hi;obtain⟨h1,h2⟩:=linN_ok H i (by omega);have hm:i < m.length:=by have:=H.hl; omega
   have hr:=H.hr _ (wC hm);have e1:v.getD i 0=v[i]:=by simp[show i < v.length by omega]
   have e2:m.getD i []=m[i]:=by simp[hm]
   have hx:=H.hv _ (wC (show i < v.length by omega));have ho:=h2 _ (wC (show j < (linN p n v m i).length by omega));have hy:=hr.2 _ (wC (show j < m[i].length by omega));obtain⟨-, -,t1, -⟩:=small_mul H.hp hx hy ho;have e3:nth (linN p n v m (i+1)) j=((linN p n v m i)[j]+v[i]*(m[i])[j]).tmod p:=by
    simp only[linN,e1,e2];rw[zd (by unfold addRow; rw[List.length_zipWith,h1,hr.1]; omega)];simp[addRow]
   have h0:0≤(linN p n v m i)[j]+v[i]*(m[i])[j]:=by have:=Int.mul_nonneg hx.1 hy.1; omega
   rw[e3,vR h0];refine(Cg.mod _ _).trans ?_;show Cg p _ (sumI _ (i+1));unfold sumI;refine .add ?_ ?_
   ·have:=ih (by omega)
    rwa[zd (by omega)]at this
   ·rw[zd (show i < v.length by omega),qX hm,zd (show j < m[i].length by omega)]; exact .refl _ _
 exact key v.length (wE _)
def df(x:qc)(n:Nat)(v:L1):L1:=lin x.C.P (dm x n) v (mt x (n+1))
theorem df_linok{x:qc}(h:qx x){n:Nat}(hn:n+1 < x.L.length){v:L1}(hv:qP x.C.P (dm x (n+1)) v):LinOK x.C.P (dm x n) v (mt x (n+1)):=by
 obtain⟨h1,h2,h3⟩:=mt_ok h hn;have hd:=zA h (n:=n) (by omega);have pQ:=zA h hn;have hvl:=hv.len;refine⟨h.vc.p.range,fun y hy=>?_,by omega,fun l hl=>⟨(h3 l hl).len,fun y hy=>?_⟩,by omega,by omega⟩
 ·obtain⟨k,hk,rfl⟩:=wN hy
  have:=hv.rng k (by omega)
  rwa[zd hk]at this
 ·have hl':=h3 l hl
  have hll:=hl'.len;obtain⟨k,hk,rfl⟩:=wN hy;have:=hl'.rng k (by omega)
  rwa[zd hk]at this
theorem df_at{x:qc}(h:qx x){n:Nat}(hn:n+1 < x.L.length){v:L1}(hv:qP x.C.P (dm x (n+1)) v){j:Nat}(hj:j < dm x n):Cg x.C.P (nth (df x n v) j) (dot (nth v) (mt x (n+1)) (dm x (n+1)) j):=by
 have:=lin_at (df_linok h hn hv) hj
 rwa[hv.len]at this
theorem df_ok{x:qc}(h:qx x){n:Nat}(hn:n+1 < x.L.length){v:L1}(hv:qP x.C.P (dm x (n+1)) v):qP x.C.P (dm x n) (df x n v):=by
 have H:=df_linok h hn hv;have hok:=linN_ok H v.length (wE _);refine⟨hok.1,fun j hj=>?_⟩;have hj':j < (df x n v).length:=by unfold df; rw[lin_len H]; exact hj
 rw[zd hj'];exact hok.2 _ (wC hj')
theorem df_lin{x:qc}(h:qx x){n:Nat}(hn:n+1 < x.L.length):Lin x.C.P (dm x (n+1)) (dm x n) (df x n):=by
 have aK:0 < x.C.P:=by have:=h.vc.p.range; omega
 refine⟨fun u hu=> df_ok h hn hu,fun u v k hu hv=>?_⟩;have h1:=qU aK hu.len hv.len (k:=k);have d1:=df_ok h hn hu;have d2:=df_ok h hn hv;refine(df_ok h hn h1).ext (qU aK d1.len d2.len) fun j hj=>?_;refine(df_at h hn h1 hj).trans (Cg.trans (dot_cg fun i hi=> zb hu.len hv.len hi) ?_);rw[dot_lin];exact Cg.symm ((zb d1.len d2.len hj).trans (.sub (df_at h hn hu hj) (.mul (.refl _ _) (df_at h hn hv hj))))
theorem units_sp{p:Int}(hp:1 < p){n:Nat}{v:L1}(hv:qP p n v):Sp p n (zy n) v:=by
 have aK:0 < p:=by omega
 have hu:=zX hp n;refine(jx aK hu hv).1 ((jY aK hu.ok hv).ext (jc aK n) fun j hj=>?_);have hm:jN n j∈zy n:=wL.2 ⟨j,wV.2 hj,rfl⟩;have:=rest_lead aK hu hv _ hm;rw[ld_unit hj]at this;rw[this,zn]; exact .refl _ _
theorem Sp.zeros{p:Int}{w:Nat}(hp:0 < p){R:aJ}(h:∀r∈R,r=zv w){v:L1}(hv:Sp p w R v):v=zv w:=by
 induction hv with
 |zero=> rfl
 | @sub v r k hv hr ih=>
  rw[ih,h r hr];exact(qU hp (jc hp w).len (jc hp w).len).ext (jc hp w) fun j hj=>(zb (jc hp w).len (jc hp w).len hj).trans (by rw[zn]; exact⟨0,by simp⟩)
theorem df_unit{x:qc}(h:qx x){n:Nat}(hn:n+1 < x.L.length){i:Nat}(hi:i < dm x (n+1)):df x n (jN (dm x (n+1)) i)=qE (mt x (n+1)) i:=by
 have dA:1 < x.C.P:=by have:=h.vc.p.range; omega
 obtain⟨h1,h2,h3⟩:=mt_ok h hn;have hu:=unitv_ok dA hi;refine(df_ok h hn hu).ext (h3 _ (zJ (by omega))) fun j hj=>?_;refine(df_at h hn hu hj).trans ?_;rw[show dot (nth (jN (dm x (n+1)) i)) (mt x (n+1)) (dm x (n+1)) j=nth (qE (mt x (n+1)) i) j by
  rw[←dot_unit (m:=mt x (n+1)) (j:=j) hi];exact zw fun k _=> by simp only; rw[xC hi]]
 exact .refl _ _
theorem df_df{x:qc}(h:qx x){n:Nat}(hn:n+2 < x.L.length){v:L1}(hv:qP x.C.P (dm x (n+2)) v):df x n (df x (n+1) v)=zv (dm x n):=by
 have dA:1 < x.C.P:=by have:=h.vc.p.range; omega
 have aK:0 < x.C.P:=by omega
 have hL:=(df_lin h (n:=n+1) hn).comp (df_lin h (n:=n) (by omega));have hS:=hL.sp aK (zX dA (dm x (n+2))).ok (units_sp dA hv);refine Sp.zeros aK (fun r hr=>?_) hS;obtain⟨u,hu,rfl⟩:=wL.1 hr;obtain⟨i,hi,rfl⟩:=wL.1 hu;have hi':=wV.1 hi;rw[df_unit h (n:=n+1) hn hi'];obtain⟨h1,h2,h3⟩:=mt_ok h hn;have hm:=zJ (l:=mt x (n+2)) (i:=i) (by rw[h2]; exact hi');have hsq:=h.vc.sq (n+1) (by omega) h1 _ hm;have hd:=zA h (n:=n) (by omega);have hrow:=h3 _ hm;have hok:=df_ok h (n:=n) (by omega) hrow;refine nth_ext (by rw[hok.len]; simp[zv]) fun j hj=>?_;rw[zn,zd hj];refine hsq _ ?_;have:df x n (qE (mt x (n+2)) i)=lin x.C.P (x.C.D.getD (n+1 - 1) 0).toNat (qE (mt x (n+2)) i) (x.C.M.getD (n+1 - 1) []):=rfl;rw[←this];exact wC hj
theorem bottom_full{x:qc}(hs:qG x)(h:qx x){n:Nat}(hn:n < x.L.length){r q:Int}(hr: -40≤r∧r≤40)(hq: -40≤q∧q≤40):
  ∃N A,F185 x r (n:Int) q=some N∧F279 x r (n:Int) q=some N∧Red x.C.P (dm x n) N∧F184 x (r - 1) (n:Int) (q - 1)=some A∧Red x.C.P (dm x n) A∧
   (n+1 < x.L.length→∃B,F184 x (r - 1) ((n+1:Nat):Int) (q+r - 1)=some B∧Red x.C.P (dm x (n+1)) B∧qT x.C.P (dm x n) (A++low x n B) N)∧(¬n+1 < x.L.length→qT x.C.P (dm x n) A N):=by
 have hp:=h.vc.p;have hd:=zA h hn;have hsl:=hs.l;obtain⟨A,a1,a2,a3⟩:=zR hs h hn (r:=r - 1) (q:=q - 1) (by omega) (by omega);have hAl:=zg a3;by_cases c:n+1 < x.L.length
 ·obtain⟨B,b1,b2,b3⟩:=zR hs h c (r:=r - 1) (q:=q+r - 1) (by omega) (by omega)
  have hBl:=zg b3;have pQ:=zA h c;have e:(n:Int)+1=((n+1:Nat):Int):=by omega
  have hrows:Rows x.C.P (dm x n) (A++low x n B):=fun v hv=> by
   rcases wG.1 hv with hv|hv
   ·exact a3.ok v hv
   ·exact low_ok h c b3 v hv
  have hll:(low x n B).length=B.length:=by simp[low]
  obtain⟨N,n1,n2,n3⟩:=qN hp hrows (by omega) (by rw[wM]; omega);refine⟨N,A,?_,?_,n3.red,a1,a3,fun _=>⟨B,b1,b3,n3⟩,fun q=> absurd c q⟩
  ·unfold F185
   rw[qn (by omega) (by omega),ob,qn (by omega) (by omega),ob,a1,ob,qn (by omega) (by omega),ob,qn (by omega) (by omega),ob,qn (by omega) (by omega),ob,e,b1,ob,F185_1_eq hs h c b3 (by omega),ob,n2,ob]
  ·unfold F279
   rw[qn (by omega) (by omega),ob,qn (by omega) (by omega),ob,a2,ob,qJ (by simp; omega) (by simp; omega),ob,qn (by omega) (by omega),ob,if_pos (by omega),qn (by omega) (by omega),ob,qn (by omega) (by omega),ob,vN,e,b2,ob,F281_eq hs h c b3,ob,qJ (by omega) (by omega),ob,n1,ob]
 ·have hnl:(n:Int)+1=(x.L.length:Int):=by omega
  obtain⟨N,n1,n2,n3⟩:=qN hp a3.ok (by omega) (by omega);refine⟨N,A,?_,?_,n3.red,a1,a3,fun q=> absurd q c,fun _=> n3⟩
  ·unfold F185
   rw[qn (by omega) (by omega),ob,qn (by omega) (by omega),ob,a1,ob,qn (by omega) (by omega),ob,qn (by omega) (by omega),ob,qn (by omega) (by omega),ob,hnl,near_top hs h (by omega) (by omega),ob]
   change ((some A).bind _)=_
   rw[ob,n2,ob]
  ·unfold F279
   rw[qn (by omega) (by omega),ob,qn (by omega) (by omega),ob,a2,ob,qJ (by simp; omega) (by simp; omega),ob,qn (by omega) (by omega),ob,if_neg (by omega),vN,n1,ob]
theorem df_near{x:qc}(h:qx x){m:Nat}(hm:m+1 < x.L.length){t:Int}(r':Int){z:L1}(hz:qP x.C.P (dm x (m+1)) z)(hd:∀j,j < dm x m→t < lv x m j→Cg x.C.P (dot (nth z) (mt x (m+1)) (dm x (m+1)) j) 0):NearP x r' m t (df x m z):=by
 have aK:0 < x.C.P:=by have:=h.vc.p.range; omega
 have hok:=df_ok h hm hz;refine⟨hok,fun i hi hlt=>?_,fun m0 j hj _=>?_⟩
 ·exact((df_at h hm hz hi).trans (hd i hi hlt)).eq (hok.rng i hi).1 (hok.rng i hi).2 (vV _) aK
 ·obtain⟨k,rfl⟩:∃k,m=k+1:=⟨m - 1,by omega⟩
  rw[vC]at hj;have h1:=df_at h (n:=k) (by omega) hok hj;rw[df_df h hm hz,zn]at h1;exact h1.symm
def xI(o:Option (Unit⊕(Unit⊕Bool)))(P:Prop):Prop:=∃b:Bool,o=some (if b=true then .inl ()else .inr (.inr false))∧(b=true↔P)
theorem xI.iff{o:Option (Unit⊕(Unit⊕Bool))}{P Q:Prop}(h:xI o P)(e:P↔Q):xI o Q:=by
 obtain⟨b,h1,h2⟩:=h; exact⟨b,h1,h2.trans e⟩
theorem xI.yes:xI (some (.inl ())) True:=⟨true,rfl,by simp⟩
theorem jU.then_L{o:Option Bool}{k:Option (Unit⊕(Unit⊕Bool))}{P Q:Prop}(T:jU o P)(hk:P→xI k Q):xI (o.bind fun b=> if b=true then k else some (.inr (.inr false))) (P∧Q):=by
 rcases T.case with⟨e,q⟩|⟨e,q⟩
 ·rw[e,ob,if_pos rfl]
  exact(hk q).iff ⟨fun h=>⟨q,h⟩,fun h=> h.2⟩
 ·rw[e,ob,if_neg wD]
  exact⟨false,rfl,by simp only[vQ,false_iff]; exact fun h=> q h.1⟩
theorem xI.ite{a b:Int}{k:Option (Unit⊕(Unit⊕Bool))}{Q:Prop}(hk:a=b→xI k Q):xI (if a=b then k else some (.inr (.inr false))) (a=b∧Q):=by
 by_cases c:a=b
 ·rw[if_pos c]; exact(hk c).iff ⟨fun h=>⟨c,h⟩,fun h=> h.2⟩
 ·rw[if_neg c]; exact⟨false,rfl,by simp[c]⟩
def WTells(o:Option (Int⊕(Unit⊕Bool)))(i:Int)(P:Prop):Prop:=∃b:Bool,o=some (if b=true then .inl (i+1)else .inr (.inr false))∧(b=true↔P)
theorem WTells.iff{o:Option (Int⊕(Unit⊕Bool))}{i:Int}{P Q:Prop}(h:WTells o i P)(e:P↔Q):WTells o i Q:=by
 obtain⟨b,h1,h2⟩:=h; exact⟨b,h1,h2.trans e⟩
theorem WTells.yes{i:Int}:WTells (some (.inl (i+1))) i True:=⟨true,rfl,by simp⟩
theorem all_for{n:Nat}{B:Int→Unit→Option (Unit⊕(Unit⊕Bool))}{D:Int→Unit→Option (Unit⊕Bool)}(P:Nat→Prop)(hn:n≤1000000)(hB:∀i:Nat,i < n→xI (B i ()) (P i))(hD:∀i,D i ()=some (.inl ())):
  ∃b:Bool,forR 0 (n:Int) B D ()=some (if b=true then .inl ()else .inr false)∧(b=true↔∀i,i < n→P i):=by
 obtain⟨t,h1,b,h2,h3⟩:=qu (B:=B) (D:=D) n rfl (by omega) (fun i _=>∀k,k < i→P k) (fun t=>∃b:Bool,t=(if b=true then .inl ()else .inr false)∧(b=true↔∀i,i < n→P i)) (s:=()) (fun k hk=> by omega) (by
  rintro i _ hi hI;obtain⟨b,e,q⟩:=hB i hi;cases b with
  |true=>
   left;refine⟨(),e,fun k hk=>?_⟩;by_cases c:k=i
   ·subst c; exact q.1 rfl
   ·exact hI k (by omega)
  |false=>
   right;refine⟨.inr false,e,false,rfl,?_⟩;simp only[vQ,false_iff];intro h;have:=q.2 (h i hi);cases this) (by
  rintro _ hI;exact⟨.inl (),hD _,true,rfl,by simp only[true_iff]; exact hI⟩)
 subst h2;exact⟨b,h1,h3⟩
def dc(x:qe)(n:Nat):Nat:=(x.D.getD n 0).toNat
theorem dc_le{x:qe}(h:zp x)(n:Nat):dc x n≤8:=by
 unfold dc;by_cases hn:n < x.D.length
 ·have:=h.dim hn; omega
 ·rw[gC,gG (by omega)]; simp
theorem dc_at{x:qe}(h:zp x){n:Nat}(hn:n < x.D.length):x.D.getD n 0=(dc x n:Int):=by
 have:=h.dim hn;unfold dc; omega
theorem F99_dc{x:qe}(hx:zx x)(h:zp x){n:Nat}(hn:n≤x.D.length):F99 x (n:Int)=some (dc x n:Int):=by
 have hd:=hx.d;by_cases c:n < x.D.length
 ·rw[F99_at hx.d c,dc_at h c]
 ·have e:n=x.D.length:=by omega
  subst e;have:dc x x.D.length=0:=by unfold dc; rw[gC,gG (by omega)]; rfl
  unfold F99;rw[qn (by omega) (by omega),ob,xy,ob,if_neg (by simp; omega),this];rfl
theorem bounds_same{x:qe}(hx:zx x)(h:zp x){n:Nat}(hn:n < x.D.length):∃B,F251 x (n:Int)=some B∧F186 x (n:Int)=some B∧Red x.P (dc x n) B:=by
 have hd:=hx.d;have hml:=h.ml;have hdl:=h.dl;unfold F251 F186;rw[qn (by omega) (by omega),ob,if_neg (by omega),jV hx.d,ob];by_cases c:n+1 < x.D.length
 ·have ht:=h.tab n (by omega)
  have hr:Rows x.P (dc x n) (x.M.getD n []):=fun r hr=>(ht.2 r hr).vec;have hl:=ht.1;have pQ:=h.dim c;have:=dc_le h n;obtain⟨B,b1,b2,b3⟩:=qN h.p hr (by omega) (by omega);rw[show(n:Int)+1=((n+1:Nat):Int) by omega,F76_eq hx.d c (by omega),ob,b1,ob,if_neg (by omega),qk (show n < x.M.length by omega) [],ob,b2,ob];exact⟨B,rfl,rfl,b3.red⟩
 ·obtain⟨N,n1, -,n3⟩:=qN (p:=x.P) (w:=dc x n) h.p (rows:=[]) (fun r hr=>(nomatch hr)) (by have:=dc_le h n; omega) (by simp)
  have hN:N=[]:=by have:=n3.same (by have:=h.p.range; omega) (qT.nil x.P (dc x n)); exact this
  subst hN;have e:F76 x ((n:Int)+1)=some []:=by
   unfold F76;rw[qn (by omega) (by omega),ob,xy,ob,if_neg (by simp; omega)];have j8:=F99_dc hx h (n:=n+1) (by omega);have h0:dc x (n+1)=0:=by unfold dc; rw[gC,gG (by omega)]; rfl
   rw[h0]at j8;obtain⟨t,g1,g2⟩:=qV (S:=kG x ((n:Int)+1)) (fun s=> 0) (fun s=> s=([],0)) (fun t=> t=[]) (s:=([],0)) rfl (by
    rintro s rfl;right;unfold kG;simp only;rw[show(n:Int)+1=((n+1:Nat):Int) by omega,j8,ob,if_neg (by simp)];exact⟨_,rfl,rfl⟩)
   rw[g1,ob,g2]
  rw[e,ob,n1,ob,if_pos (by omega)];exact⟨[],rfl,rfl,n3.red⟩
structure TabN (p:Int) (c w:Nat) (m:aJ):Prop where
 len:m.length=c
 rows:Rows p w m
theorem TabN.of{p:Int}{c w:Nat}{m:aJ}(T:TableOK p (c:Int) (w:Int) m):TabN p c w m:=⟨by have:=T.1; omega,fun r hr=>(T.2 r hr).vec⟩
structure PT (s0 ms:T3s) (φ:Nat→Nat→Nat→Nat×Nat×Nat) (val:Nat→Nat→Nat→Int) (D:Nat→Nat→Nat→Prop) (s:T3s):Prop where
 shp:Shp s s0
 at':∀k i j,InT ms k i j→(D k i j→zh s (φ k i j).1 (φ k i j).2.1 (φ k i j).2.2=val k i j)∧(¬D k i j→zh s (φ k i j).1 (φ k i j).2.1 (φ k i j).2.2=zh s0 (φ k i j).1 (φ k i j).2.1 (φ k i j).2.2)
 out:∀a b c,InT s0 a b c→(∀k i j,InT ms k i j→φ k i j≠(a,b,c))→zh s a b c=zh s0 a b c
theorem PT.imp{s0 ms:T3s}{φ:Nat→Nat→Nat→Nat×Nat×Nat}{val:Nat→Nat→Nat→Int}{D D':Nat→Nat→Nat→Prop}{s:T3s}(h:PT s0 ms φ val D s)(hd:∀k i j,InT ms k i j→(D k i j↔D' k i j)):PT s0 ms φ val D' s:=
 ⟨h.shp,fun k i j hin=>⟨fun d=>(h.at' k i j hin).1 ((hd k i j hin).2 d),fun d=>(h.at' k i j hin).2 fun x=> d ((hd k i j hin).1 x)⟩,h.out⟩
theorem PT.zero{s0 ms:T3s}{φ:Nat→Nat→Nat→Nat×Nat×Nat}{val:Nat→Nat→Nat→Int}:PT s0 ms φ val (fun _ _ _=> False) s0:=⟨.refl _,fun k i j _=>⟨fun x=> x.elim,fun _=> rfl⟩,fun _ _ _ _ _=> rfl⟩
theorem PT.step{s0 ms:T3s}{φ:Nat→Nat→Nat→Nat×Nat×Nat}{val:Nat→Nat→Nat→Int}(hi:∀k i j,InT ms k i j→InT s0 (φ k i j).1 (φ k i j).2.1 (φ k i j).2.2)(hinj:∀k i j k' i' j',InT ms k i j→InT ms k' i' j'→φ k i j=φ k' i' j'→k=k'∧i=i'∧j=j')
  {D D':Nat→Nat→Nat→Prop} {s:T3s} (h:PT s0 ms φ val D s) {k i j:Nat} (hin:InT ms k i j) (hd:∀k' i' j',D' k' i' j'↔D k' i' j'∨(k'=k∧i'=i∧j'=j)):PT s0 ms φ val D' (put3 s (φ k i j).1 (φ k i j).2.1 (φ k i j).2.2 (val k i j)):=by
 have hs:=h.shp.inT (hi k i j hin);refine⟨(put3_shp hs _).trans h.shp,fun k' i' j' hin'=>?_,fun a b c habc hne=>?_⟩
 ·rw[put3_at hs]
  by_cases e:k'=k∧i'=i∧j'=j
  ·obtain⟨rfl,rfl,rfl⟩:=e
   rw[if_pos ⟨rfl,rfl,rfl⟩];exact⟨fun _=> rfl,fun d=> absurd ((hd _ _ _).2 (.inr ⟨rfl,rfl,rfl⟩)) d⟩
  ·rw[if_neg fun q=> e (hinj k' i' j' k i j hin' hin (Prod.ext q.1 (Prod.ext q.2.1 q.2.2)))]
   refine⟨fun d=>(h.at' _ _ _ hin').1 (((hd _ _ _).1 d).resolve_right e),fun d=>(h.at' _ _ _ hin').2 fun x=> d ((hd _ _ _).2 (.inl x))⟩
 ·rw[put3_at hs,if_neg fun q=> hne k i j hin (Prod.ext q.1.symm (Prod.ext q.2.1.symm q.2.2.symm))]
  exact h.out a b c habc hne
theorem F75_zero{p:Int}(hp:2≤p∧p≤7){s:T3s}{k i j:Nat}{v:Int}(h:InT s k i j)(hk:k≤1048576)(ho:zh s k i j=0)(hv: -p < v∧v < p):
  F75 p ((k:Int)+1) i j v s=some (put3 s k i j (v% p)):=by
 obtain⟨h1,h2,h3⟩:=h;have e1:((k:Int)+1 - 1)=(k:Int):=by omega
 have ho':((s.getD k []).getD i []).getD j 0=0:=ho;have e2:(v.tmod p+p).tmod p=v% p:=by
  rcases Int.le_total 0 v with q|q
  ·rw[vR q,vZ q hv.2,vR (by omega),Int.add_emod_right,vZ q hv.2]
  ·have:v.tmod p=v:=by
    rw[←Int.neg_neg v,Int.neg_tmod,vR (by omega),vZ (by omega) (by omega)]
   rw[this,vR (by omega),Int.add_emod_right]
 have hb: -7 < v.tmod p∧v.tmod p < 7:=by
  have h1:=uA v (show 0 < p by omega);have h2:=uA (-v) (show 0 < p by omega);rw[Int.neg_tmod]at h2;omega
 unfold F75;rw[qn (by omega) (by omega),ob,e1,qk h1 [],ob,qk h2 [],ob,qk h3 0,ob,ho',Int.zero_add,qn (by omega) (by omega),ob,jE (by omega),ob,qn (by omega) (by omega),ob,jE (by omega),ob,e2,za h3,ob,za h2,ob,za h1];rfl
theorem bounds_full{x:qe}(hx:zx x)(h:zp x){n:Nat}(hn:n < x.D.length):∃B,F251 x (n:Int)=some B∧F186 x (n:Int)=some B∧Red x.P (dc x n) B∧(n+1 < x.D.length→qT x.P (dc x n) (x.M.getD n []) B)∧(¬n+1 < x.D.length→B=[]):=by
 have hd:=hx.d;have hml:=h.ml;have hdl:=h.dl;obtain⟨B,b1,b2,b3⟩:=bounds_same hx h hn;refine⟨B,b1,b2,b3,fun c=>?_,fun c=>?_⟩
 ·have ht:=h.tab n (by omega)
  have hr:Rows x.P (dc x n) (x.M.getD n []):=fun r hr=>(ht.2 r hr).vec;have hl:=ht.1;have pQ:=h.dim c;have:=dc_le h n;obtain⟨B',vi,b2',b3'⟩:=qN h.p hr (by omega) (by omega);unfold F186 at b2;rw[jV hx.d,ob,if_neg (by omega),if_neg (by omega),qk (show n < x.M.length by omega) [],ob,b2',ob]at b2;have:=wA b2;subst this;exact b3'
 ·unfold F186 at b2
  rw[jV hx.d,ob,if_neg (by omega),if_pos (by omega)]at b2;exact(wA b2).symm
def CycP(x:qc)(n:Nat)(q:Int)(v:L1):Prop:=
 qP x.C.P (dm x n) v∧(∀i,i < dm x n→q < lv x n i→nth v i=0)∧(n≠0→∀j,j < dm x (n - 1)→Cg x.C.P (dot (nth v) (mt x n) (dm x n) j) 0)
theorem lv_rng{x:qc}(h:qx x){n i:Nat}(hn:n < x.L.length)(hi:i < dm x n):0≤lv x n i∧lv x n i≤5:=by
 have hd:=zA h hn;unfold lv;exact(h.lv n hn).2 _ (qz (by omega) 0)
theorem near_cyc{x:qc}(h:qx x){n:Nat}(hn:n < x.L.length){r q:Int}(hrq:q < r)(v:L1):NearP x r n q v↔CycP x n q v:=by
 unfold NearP CycP;refine and_congr_right fun _=> and_congr_right fun _=>⟨fun g h0 j hj=> g h0 j hj ?_,fun g h0 j hj _=> g h0 j hj⟩;have:=(lv_rng h (n:=n - 1) (by omega) hj).1;omega
theorem near_far{x:qc}(hs:qG x)(h:qx x){n:Nat}(hn:n < x.L.length){r r' q:Int}(hr: -100≤r∧r≤100)(hr': -100≤r'∧r'≤100)(hq: -100≤q∧q≤100)(h1:q < r)(h2:q < r'){N N':aJ}(e1:F184 x r (n:Int) q=some N)(e2:F184 x r' (n:Int) q=some N'):N=N':=by
 have aK:0 < x.C.P:=by have:=h.vc.p.range; omega
 obtain⟨A,a1, -,a3⟩:=zR hs h hn hr hq;obtain⟨B,b1, -,b3⟩:=zR hs h hn hr' hq;rw[e1]at a1;rw[e2]at b1;cases a1;cases b1;exact Red.unique aK a3 b3 fun v=>((near_sp hs h hn hr hq e1 v).trans (near_cyc h hn h1 v)).trans (((near_sp hs h hn hr' hq e2 v).trans (near_cyc h hn h2 v)).symm)
theorem bound_img{x:qc}(h:qx x){n:Nat}(hn:n+1 < x.L.length){v:L1}:Sp x.C.P (dm x n) (mt x (n+1)) v↔∃z,qP x.C.P (dm x (n+1)) z∧df x n z=v:=by
 have dA:1 < x.C.P:=by have:=h.vc.p.range; omega
 have aK:0 < x.C.P:=by omega
 obtain⟨h1,h2,h3⟩:=mt_ok h hn;have hL:=df_lin h hn;have hU:=(zX dA (dm x (n+1))).ok;have e:∀r,r∈mt x (n+1)↔r∈(zy (dm x (n+1))).map (df x n):=fun r=> by
  rw[xN];constructor
  ·rintro⟨i,hi,rfl⟩
   rw[←df_unit h hn (i:=i) (by omega)];exact List.mem_map_of_mem (List.mem_map_of_mem (wV.2 (by omega)))
  ·intro q
   obtain⟨u,hu,rfl⟩:=wL.1 q;obtain⟨i,hi,rfl⟩:=wL.1 hu;have hi':=wV.1 hi;exact⟨i,by omega,(df_unit h hn hi').symm⟩
 constructor
 ·intro hv
  obtain⟨z,hz,rfl⟩:=hL.lift aK hU (hv.mono fun r hr=>(e r).1 hr);exact⟨z,hz.ok aK hU,rfl⟩
 ·rintro⟨z,hz,rfl⟩
  exact(hL.sp aK hU (units_sp dA hz)).mono fun r hr=>(e r).2 hr
theorem page6{x:qc}(hs:qG x)(h:qx x){n:Nat}(hn:n < x.L.length){q:Int}(hq:0≤q∧q≤5){Z Y T B W1 W2:aJ}
  (hZ:F184 x 6 (n:Int) q=some Z) (hY:F184 x 6 (n:Int) (q - 1)=some Y) (hT:F185 x 6 (n:Int) q=some T) (hB:F186 x.C (n:Int)=some B)
  (hW1:qT x.C.P (dm x n) (Z++B) W1) (hW2:qT x.C.P (dm x n) (Y++B) W2):Z.length+W2.length=W1.length+T.length:=by
 have hp:=h.vc.p;have dA:1 < x.C.P:=by have:=hp.range; omega
 have aK:0 < x.C.P:=by omega
 have hll:=h.ll;obtain⟨T',A,t1, -,tr,a1,ar,tt,tn⟩:=bottom_full hs h hn (r:=6) (q:=q) (by omega) (by omega);rw[hT]at t1;cases t1;have hA:A=Y:=near_far hs h hn (r:=6 - 1) (r':=6) (q:=q - 1) (by omega) (by omega) (by omega) (by omega) (by omega) a1 hY;subst hA;obtain⟨Z',z1, -,zr⟩:=zR hs h hn (r:=6) (q:=q) (by omega) (by omega);rw[hZ]at z1;cases z1;have zsp:=fun v=>(near_sp hs h hn (by omega) (by omega) hZ v).trans (near_cyc h hn (r:=6) (q:=q) (by omega) v);have ysp:=fun v=>(near_sp hs h hn (by omega) (by omega) hY v).trans (near_cyc h hn (r:=6) (q:=q - 1) (by omega) v);obtain⟨B', -,b2,br,bb,bn⟩:=bounds_full hs.c h.vc (n:=n) (by omega);rw[hB]at b2;cases b2;have hYZ:∀v∈A,Sp x.C.P (dm x n) Z v:=fun v hv=> by
  obtain⟨v1,v2,v3⟩:=(ysp v).1 (.mem aK ar.ok hv);exact(zsp v).2 ⟨v1,fun i hi hl=> v2 i hi (by omega),v3⟩
 by_cases c:n+1 < x.L.length
 ·obtain⟨N,n1,nr,ne⟩:=tt c
  have bE:=bb (by omega);have nsp:=near_sp hs h c (r:=6 - 1) (q:=q+6 - 1) (by omega) (by omega) n1;have hXm:∀v∈low x n N,∃z,Sp x.C.P (dm x (n+1)) N z∧df x n z=v:=fun v hv=> by
   obtain⟨z,hz,rfl⟩:=wL.1 hv;exact⟨z,.mem aK nr.ok hz,rfl⟩
  have hXZ:∀v∈low x n N,Sp x.C.P (dm x n) Z v:=fun v hv=> by
   obtain⟨z,hz,rfl⟩:=hXm v hv;obtain⟨v1,v2,v3⟩:=(nsp z).1 hz;refine(near_sp hs h hn (by omega) (by omega) hZ _).2 (df_near h c 6 v1 fun j hj hlt=>?_);exact v3 (by omega) j hj (by rw[vC]; omega)
  have hXB:∀v∈low x n N,Sp x.C.P (dm x n) B v:=fun v hv=> by
   obtain⟨z,hz,rfl⟩:=hXm v hv;exact(bE.sp _).2 ((bound_img h c).2 ⟨z,hz.ok aK nr.ok,rfl⟩)
  have hBX:∀v,Sp x.C.P (dm x n) B v→Sp x.C.P (dm x n) Z v→Sp x.C.P (dm x n) (low x n N) v:=fun v hb hz=> by
   obtain⟨z,zo,rfl⟩:=(bound_img h c).1 ((bE.sp _).1 hb);obtain⟨v1,v2,v3⟩:=(zsp _).1 hz;refine(df_lin h c).sp aK nr.ok ((nsp z).2 ⟨zo,fun i hi hl=>?_,fun _ j hj hl=>?_⟩)
   ·have:=(lv_rng h c hi).2; omega
   ·rw[vC]at hj hl
    have e:=v2 j hj (by omega);have:=df_at h c zo hj;rw[e]at this;exact this.symm
  exact rank_mod dA hp.inv ar.ok (low_ok h c nr) br.ok zr hYZ hXZ hXB hBX ne hW2 hW1
 ·have hb:=bn (by omega)
  subst hb;have ne:=tn c;exact rank_mod dA hp.inv ar.ok (X:=[]) (B:=[]) (fun r hr=>(nomatch hr)) (fun r hr=>(nomatch hr)) zr hYZ (fun r hr=>(nomatch hr)) (fun r hr=>(nomatch hr)) (fun v hv _=> hv) (by rw[vK]; exact ne) hW2 hW1
theorem F74_2_big{dims:L1}(o:T3s)(a b:Int)(c:L1){n:Nat}(h1:1≤n)(hn:n < dims.length)(hs:dims.length≤1048576)(hd:∀d∈dims,0≤d∧d≤1000):
  forR 0 (dims.getD n 0) (F74_2_B dims o a c n b) (F74_2_D dims o a c n b) []=some (zT dims (n - 1)):=by
 have q:=hd _ (qz hn 0);have q':=hd _ (qz (show n - 1 < dims.length by omega) 0);have e1:((n:Int) - 1)=((n - 1:Nat):Int):=by omega
 obtain⟨t,g1,g2⟩:=qu (B:=F74_2_B dims o a c n b) (D:=F74_2_D dims o a c n b) (hi:=dims.getD n 0) (dims.getD n 0).toNat (by omega) (by omega) (fun j s=> s=List.replicate j (List.replicate (dims.getD (n - 1) 0).toNat (0:Int))) (fun t=> t=zT dims (n - 1)) (s:=[]) (by simp) (by
  rintro j s hj rfl;left;refine⟨List.replicate (j+1) (List.replicate (dims.getD (n - 1) 0).toNat (0:Int)),?_,rfl⟩;unfold F74_2_B;rw[qn (by omega) (by omega),ob,e1,qk (show n - 1 < dims.length by omega) 0,ob,mkL_ok (dims.getD (n - 1) 0).toNat (by omega) (by omega) (by omega),ob,qJ (by simp; omega) (by simp; omega),ob,List.replicate_succ']) (by
  rintro s rfl;refine⟨_,rfl,?_⟩;unfold zT;rw[show n - 1+1=n by omega])
 rw[g1,g2]
theorem F74_big{p:Int}{dims:L1}(h1:1≤dims.length)(hs:dims.length≤1048576)(hd:∀d∈dims,0≤d∧d≤1000):F74 p dims=some ⟨p,dims,zM dims⟩:=by
 have hlen:dims.length < 4611686018427387904:=by omega
 unfold F74;obtain⟨t,g1,g2⟩:=forR_from (B:=F74_1_B dims) (D:=F74_1_D dims) 1 dims.length rfl rfl h1 hlen (fun n s=> 1≤n∧s=((List.range (n - 1)).map (zT dims),p,dims)) (fun t=> t=(zM dims,p,dims)) (s:=([],p,dims)) ⟨wE _,rfl⟩ (by
  rintro n s hn ⟨hn1,rfl⟩;left;refine⟨((List.range n).map (zT dims),p,dims),?_,by omega,rfl⟩;unfold F74_1_B;simp only;rw[qk hn 0,ob,F74_2_big _ _ _ _ hn1 hn hs hd,ob,qJ (by simp; omega) (by simp; omega),ob];obtain⟨m,rfl⟩:∃m,n=m+1:=⟨n - 1,by omega⟩;rw[uJ,yI]; rfl) (by
  rintro s ⟨_,rfl⟩;exact⟨_,rfl,rfl⟩)
 have pL:forR 1 (dims.length:Int) (F74_1_B dims) (F74_1_D dims) ([],p,dims)=some t:=g1;rw[pL,g2,ob]
theorem inT_zM{dims:L1}{k i j:Nat}:InT (zM dims) k i j↔k+1 < dims.length∧i < (dims.getD (k+1) 0).toNat∧j < (dims.getD k 0).toNat:=by
 have hl:(zM dims).length=dims.length - 1:=by simp[zM]
 unfold InT;rw[hl];constructor
 ·rintro⟨h1,h2,h3⟩
  rw[zM_at h1]at h2 h3;have h2':i < (dims.getD (k+1) 0).toNat:=by unfold zT at h2; rwa[yB]at h2
  have e:(zT dims k).getD i []=List.replicate (dims.getD k 0).toNat (0:Int):=by
   unfold zT at h2 ⊢;rw[gC,gE h2,List.getElem_replicate]; rfl
  rw[e,yB]at h3;exact⟨by omega,h2',h3⟩
 ·rintro⟨h1,h2,h3⟩
  have h1':k < dims.length - 1:=by omega
  rw[zM_at h1'];have h2':i < (zT dims k).length:=by unfold zT; rwa[yB]
  have e:(zT dims k).getD i []=List.replicate (dims.getD k 0).toNat (0:Int):=by
   unfold zT at h2' ⊢;rw[gC,gE h2',List.getElem_replicate]; rfl
  exact⟨h1',h2',by rw[e,yB]; exact h3⟩
theorem zM_zero{dims:L1}{k i j:Nat}(hin:InT (zM dims) k i j):zh (zM dims) k i j=0:=by
 obtain⟨h1,h2,h3⟩:=hin;have hk:k < dims.length - 1:=by simpa[zM]using h1
 rw[zM_at hk]at h2 h3;unfold zh;rw[zM_at hk];unfold zT at h2 h3 ⊢;have e:(List.replicate (dims.getD (k+1) 0).toNat (List.replicate (dims.getD k 0).toNat (0:Int))).getD i []=List.replicate (dims.getD k 0).toNat (0:Int):=by
  rw[gC,gE h2,List.getElem_replicate]; rfl
 rw[e]at h3 ⊢;rw[gC,gE h3,List.getElem_replicate]; rfl
structure Fam (x y:qe) (f:T3s):Prop where
 sx:zx x
 sy:zx y
 sf:SmallT f
 vx:zp x
 vy:zp y
 pp:y.P=x.P
 l:y.D.length=x.D.length
 fl:f.length=x.D.length
 t:∀n,n < x.D.length→TabN x.P (dc x n) (dc y n) (f.getD n [])
theorem inT_maps{x:qe}(h:zp x){k i j:Nat}:InT x.M k i j↔k+1 < x.D.length∧i < dc x (k+1)∧j < dc x k:=by
 have hml:=h.ml;have hdl:=h.dl;unfold InT;constructor
 ·rintro⟨h1,h2,h3⟩
  have ht:=h.tab k h1;have a:=ht.1;have b:=(ht.2 _ (qz h2 [])).1;unfold dc;exact⟨by omega,by omega,by omega⟩
 ·rintro⟨h1,h2,h3⟩
  have h1':k < x.M.length:=by omega
  have ht:=h.tab k h1';have a:=ht.1;unfold dc at h2 h3;have h2':i < (x.M.getD k []).length:=by omega
  have b:=(ht.2 _ (qz h2' [])).1;exact⟨h1',h2',by omega⟩
theorem Fam.inT{x y:qe}{f:T3s}(F:Fam x y f){k i j:Nat}:InT f k i j↔k < x.D.length∧i < dc x k∧j < dc y k:=by
 have hfl:=F.fl;unfold InT;constructor
 ·rintro⟨h1,h2,h3⟩
  have ht:=F.t k (by omega);have a:=ht.len;have b:=(ht.rows _ (qz h2 [])).len;exact⟨by omega,by omega,by omega⟩
 ·rintro⟨h1,h2,h3⟩
  have ht:=F.t k h1;have a:=ht.len;have h2':i < (f.getD k []).length:=by omega
  have b:=(ht.rows _ (qz h2' [])).len;exact⟨by omega,h2',by omega⟩
theorem row_ok{p:Int}{c w:Nat}{m:aJ}(T:TabN p c w m){i:Nat}(h:i < c):qP p w (qE m i):=T.rows _ (zJ (by rw[T.len]; exact h))
theorem maps_tab{x:qe}(h:zp x){k:Nat}(hk:k+1 < x.D.length):TabN x.P (dc x (k+1)) (dc x k) (x.M.getD k []):= .of (by
 have:=h.tab k (by have:=h.ml; omega);unfold xd at this
 rwa[dc_at h hk,dc_at h (show k < x.D.length by omega)]at this)
structure xZ (x:qe):Prop where
 p:IsP x.P
 dl:1≤x.D.length∧x.D.length≤100
 ml:x.M.length+1=x.D.length
 dims:∀d∈x.D,0≤d∧d≤100
 tab:∀k,k < x.M.length→xd x k
theorem xZ.dim{x:qe}(h:xZ x){n:Nat}(hn:n < x.D.length):0≤x.D.getD n 0∧x.D.getD n 0≤100:=h.dims _ (qz hn 0)
theorem zp.wide{x:qe}(h:zp x):xZ x:=⟨h.p,⟨h.dl.1,by have:=h.dl.2; omega⟩,h.ml,fun d hd=> by have:=h.dims d hd; omega,h.tab⟩
theorem xW{x:qe}(h:xZ x)(n:Nat):dc x n≤100:=by
 unfold dc;by_cases hn:n < x.D.length
 ·have:=h.dim hn; omega
 ·rw[gC,gG (by omega)]; simp
theorem dc_atw{x:qe}(h:xZ x){n:Nat}(hn:n < x.D.length):x.D.getD n 0=(dc x n:Int):=by
 have:=h.dim hn;unfold dc; omega
theorem F99_dcw{x:qe}(hx:zx x)(h:xZ x){n:Nat}(hn:n≤x.D.length):F99 x (n:Int)=some (dc x n:Int):=by
 have hd:=hx.d;by_cases c:n < x.D.length
 ·rw[F99_at hx.d c,dc_atw h c]
 ·have e:n=x.D.length:=by omega
  subst e;have:dc x x.D.length=0:=by unfold dc; rw[gC,gG (by omega)]; rfl
  unfold F99;rw[qn (by omega) (by omega),ob,xy,ob,if_neg (by simp; omega),this];rfl
theorem bounds_wide{x:qe}(hx:zx x)(h:xZ x){n:Nat}(hn:n < x.D.length):∃B,F251 x (n:Int)=some B∧F186 x (n:Int)=some B∧Red x.P (dc x n) B:=by
 have hd:=hx.d;have hml:=h.ml;have hdl:=h.dl;unfold F251 F186;rw[qn (by omega) (by omega),ob,if_neg (by omega),jV hx.d,ob];by_cases c:n+1 < x.D.length
 ·have ht:=h.tab n (by omega)
  have hr:Rows x.P (dc x n) (x.M.getD n []):=fun r hr=>(ht.2 r hr).vec;have hl:=ht.1;have pQ:=h.dim c;have:=xW h n;obtain⟨B,b1,b2,b3⟩:=qN h.p hr (by omega) (by omega);rw[show(n:Int)+1=((n+1:Nat):Int) by omega,F76_eq hx.d c (by omega),ob,b1,ob,if_neg (by omega),qk (show n < x.M.length by omega) [],ob,b2,ob];exact⟨B,rfl,rfl,b3.red⟩
 ·obtain⟨N,n1, -,n3⟩:=qN (p:=x.P) (w:=dc x n) h.p (rows:=[]) (fun r hr=>(nomatch hr)) (by have:=xW h n; omega) (by simp)
  have hN:N=[]:=by have:=n3.same (by have:=h.p.range; omega) (qT.nil x.P (dc x n)); exact this
  subst hN;have e:F76 x ((n:Int)+1)=some []:=by
   unfold F76;rw[qn (by omega) (by omega),ob,xy,ob,if_neg (by simp; omega)];have j8:=F99_dcw hx h (n:=n+1) (by omega);have h0:dc x (n+1)=0:=by unfold dc; rw[gC,gG (by omega)]; rfl
   rw[h0]at j8;obtain⟨t,g1,g2⟩:=qV (S:=kG x ((n:Int)+1)) (fun s=> 0) (fun s=> s=([],0)) (fun t=> t=[]) (s:=([],0)) rfl (by
    rintro s rfl;right;unfold kG;simp only;rw[show(n:Int)+1=((n+1:Nat):Int) by omega,j8,ob,if_neg (by simp)];exact⟨_,rfl,rfl⟩)
   rw[g1,ob,g2]
  rw[e,ob,n1,ob,if_pos (by omega)];exact⟨[],rfl,rfl,n3.red⟩
theorem concat2{a b:aJ}(ha:a.length≤10000)(hb:b.length≤10000):F200 [a,b]=some (a++b):=by
 unfold F200;have h1:forR 0 ((([a,b]:L3).length:Nat):Int) (F200_1_B [a,b]) F200_1_D 0=some (((a.length+b.length:Nat):Int)):=by
  obtain⟨t,g1,g2⟩:=qu (B:=F200_1_B [a,b]) (D:=F200_1_D) (hi:=(([a,b]:L3).length:Int)) 2 rfl (by decide) (fun i s=> s=(((([a,b]:L3).take i).map List.length).sum:Nat)) (fun t=> t=(((a.length+b.length:Nat):Int))) (s:=0) rfl (by
   rintro i s hi rfl;left;unfold F200_1_B
   match i,hi with
   |0,_=> exact⟨_,by rw[show((0:Nat):Int)=((0:Nat):Int) from rfl,qr (l:=[a,b]) (i:=0) (by simp),ob,qn (by simp <;> omega) (by simp <;> omega),ob,if_neg (by simp <;> omega)],by simp⟩
   |1,_=> exact⟨_,by rw[qr (l:=[a,b]) (i:=1) (by simp),ob,qn (by simp <;> omega) (by simp <;> omega),ob,if_neg (by simp <;> omega)],by simp⟩) (by
   rintro s rfl;exact⟨_,rfl,by simp⟩)
  rw[g1,g2]
 have h2:forR 0 ((([a,b]:L3).length:Nat):Int) (F200_2_B [a,b]) F200_2_D []=some (a++b):=by
  obtain⟨t,g1,g2⟩:=qu (B:=F200_2_B [a,b]) (D:=F200_2_D) (hi:=(([a,b]:L3).length:Int)) 2 rfl (by decide) (fun i s=> s=(([a,b]:L3).take i).flatten) (fun t=> t=a++b) (s:=[]) rfl (by
   rintro i s hi rfl;left;unfold F200_2_B
   match i,hi with
   |0,_=> exact⟨_,by rw[qr (l:=[a,b]) (i:=0) (by simp),ob,qJ (by simp; omega) (by simp; omega),ob],by simp⟩
   |1,_=> exact⟨_,by rw[qr (l:=[a,b]) (i:=1) (by simp),ob,qJ (by simp; omega) (by simp; omega),ob],by simp⟩) (by
   rintro s rfl;exact⟨_,rfl,by simp⟩)
  rw[g1,g2]
 rw[h1,ob,if_pos (by omega),h2]
theorem kw{p:Int}(hp:IsP p){c w:Nat}{m:aJ}(hml:m.length=c)(hm:Rows p w m)(hc:c≤1000)(hw:w≤1000){v:L1}(hv:qP p c v):LinOK p w v m:=by
 have hvl:=hv.len;exact⟨hp.range,fun y hy=> by
  obtain⟨k,hk,rfl⟩:=wN hy;have:=hv.rng k (by omega)
  rwa[zd hk]at this,by omega,fun l hl=>⟨(hm l hl).len,fun y hy=> by
  have hl':=hm l hl;have hll:=hl'.len;obtain⟨k,hk,rfl⟩:=wN hy;have:=hl'.rng k (by omega)
  rwa[zd hk]at this⟩,by omega,by omega⟩
theorem ku{p:Int}{w:Nat}{m:aJ}{v:L1}(H:LinOK p w v m):qP p w (lin p w v m):=by
 have hok:=linN_ok H v.length (wE _);refine⟨hok.1,fun j hj=>?_⟩;have hj':j < (lin p w v m).length:=by rw[lin_len H]; exact hj
 rw[zd hj'];exact hok.2 _ (wC hj')
theorem nth_take{l:L1}{k j:Nat}(h:j < k):nth (l.take k) j=nth l j:=by
 unfold nth;rw[gC,gC,List.getElem?_take_of_lt h]
theorem take_vec{p:Int}{a b:Nat}{c:L1}(hc:qP p (a+b) c):qP p a (c.take a):=
 ⟨by rw[yG,hc.len]; omega,fun j hj=> by rw[nth_take hj]; exact hc.rng j (by omega)⟩
theorem lin_take{p:Int}(hp:IsP p){a b w:Nat}{m:aJ}(hml:m.length=a)(hm:Rows p w m)(ha:a≤1000)(hw:w≤1000):Lin p (a+b) w fun c=> lin p w (c.take a) m:=by
 have aK:0 < p:=by have:=hp.range; omega
 have H:=fun c (hc:qP p (a+b) c)=> kw hp hml hm ha hw (take_vec hc);have hat:=fun c (hc:qP p (a+b) c) j (hj:j < w)=> lin_at (H c hc) hj;refine⟨fun c hc=> ku (H c hc),fun u v k hu hv=>?_⟩;have h1:=qU aK hu.len hv.len (k:=k);have d1:=ku (H u hu);have d2:=ku (H v hv);refine(ku (H _ h1)).ext (qU aK d1.len d2.len) fun j hj=>?_;have e:∀c,qP p (a+b) c→(c.take a).length=a:=fun c hc=>(take_vec hc).len;refine(hat _ h1 j hj).trans ?_;rw[e _ h1];refine(dot_cg (g:=fun i=> nth (u.take a) i - k*nth (v.take a) i) fun i hi=>?_).trans ?_
 ·rw[nth_take hi,nth_take hi,nth_take hi]
  exact zb hu.len hv.len (by omega)
 ·rw[dot_lin]
  have q1:=hat u hu j hj;have q2:=hat v hv j hj;rw[e u hu]at q1;rw[e v hv]at q2;exact Cg.symm ((zb d1.len d2.len hj).trans (.sub q1 (.mul (.refl _ _) q2)))
theorem cyc_full{x:qc}(hs:qG x)(h:qx x){n:Nat}(hn:n < x.L.length):∃K,F98 x.C (n:Int)=some K∧Red x.C.P (dm x n) K∧∀v,Sp x.C.P (dm x n) K v↔qP x.C.P (dm x n) v∧(n≠0→∀j,j < dm x (n - 1)→Cg x.C.P (dot (nth v) (mt x n) (dm x n) j) 0):=by
 have hp:=h.vc.p;have dA:1 < x.C.P:=by have:=hp.range; omega
 have aK:0 < x.C.P:=by omega
 have hd:=zA h hn;have hll:=h.ll;have hsl:=hs.l;unfold F98;rw[F99_dm hs h hn,ob];rcases Nat.eq_zero_or_pos n with h0|h0
 ·subst h0
  rw[show((0:Nat):Int)=0 from rfl,F76_0 hs.c.d (by omega) hd.1 (by omega),ob,ky hp (by omega),ob];refine⟨_,rfl,zX dA _,fun v=>⟨fun q=>⟨q.ok aK (zX dA _).ok,fun c=> absurd rfl c⟩,fun q=> units_sp dA q.1⟩⟩
 ·obtain⟨k,rfl⟩:∃k,n=k+1:=⟨n - 1,by omega⟩
  obtain⟨h1,h2,h3⟩:=mt_ok h hn;have rQ:=zA h (n:=k) (by omega);obtain⟨m,m1,m2⟩:=F76_at hs h hn;have:=m2 (by omega);subst this;obtain⟨K,k1, -,k3,k4⟩:=kz hp h3 (by omega) (by omega);rw[h2]at k1 k3 k4;rw[m1,ob,k1,ob];exact⟨K,rfl,k3,fun v=>(k4 v).trans ⟨fun q=>⟨q.1,fun _ j hj=> q.2 j hj⟩,fun q=>⟨q.1,fun j hj=> q.2 (by omega) j hj⟩⟩⟩
theorem zD{β:Type}(n:Nat)(h:Nat→β):(coll n fun i=>[h i])=(List.range n).map h:=by
 induction n with
 |zero=> rfl
 |succ n ih=> rw[zZ,ih,uJ,yI]; rfl
def tab6(l:Nat)(g:Nat→Nat→Int):aJ:=coll l fun n=>[coll 6 fun q=>[g n q]]
theorem tab6_eq{l:Nat}{g h:Nat→Nat→Int}:tab6 l g=tab6 l h↔∀n,n < l→∀q,q < 6→g n q=h n q:=by
 unfold tab6;rw[zD l fun n=> coll 6 fun q=>[g n q],zD l fun n=> coll 6 fun q=>[h n q]];constructor
 ·intro e n hn q hq
  have e1:=congrArg (fun t=>(t.getD n []).getD q 0) e;simp only[gC,gF,gR hn,vL,yT]at e1;rw[zD 6 (g n),zD 6 (h n)]at e1;simpa only[gF,gR hq,vL,yT]using e1
 ·intro e
  refine yO fun n hn=>?_;have hn':=wV.1 hn;exact coll_congr fun q hq=> by rw[e n hn' q hq]
theorem tab6_len{l:Nat}{g:Nat→Nat→Int}:(tab6 l g).length=l:=by unfold tab6; rw[zD l fun n=> coll 6 fun q=>[g n q]]; simp
theorem tab6_row{l n:Nat}{g:Nat→Nat→Int}(hn:n < l):getI (tab6 l g) (n:Int)=some ((List.range 6).map (g n)):=by
 have e:tab6 l g=(List.range l).map fun n=> coll 6 fun q=>[g n q]:=by unfold tab6; rw[zD l fun n=> coll 6 fun q=>[g n q]]
 rw[e,qr (by simpa using hn),List.getElem_map,List.getElem_range,zD]
theorem tab6_rows{l:Nat}{g:Nat→Nat→Int}:∀r∈tab6 l g,r.length=6:=fun r hr=> by
 have e:tab6 l g=(List.range l).map fun n=> coll 6 fun q=>[g n q]:=by unfold tab6; rw[zD l fun n=> coll 6 fun q=>[g n q]]
 rw[e]at hr;obtain⟨n, -,rfl⟩:=wL.1 hr;rw[zD]; simp
theorem table_eq{x:qc}(h:qx x){f:Int→Int→Option Int}{g:Nat→Nat→Int}(hf:∀n q:Nat,n < x.L.length→q < 6→f (n:Int) (q:Int)=some (g n q)):F162 x f=some (tab6 x.L.length g):=by
 have hl:=h.ll;have hdl:=h.vc.dl;unfold F162;rw[xV (n:=x.L.length) (fun(n:Nat)=>[coll 6 fun(q:Nat)=>[g n q]]) (by omega) (fun n=> by simp) (by
  intro n s hn hsl;unfold F162_1_B;have e:forR 0 6 (F162_2_B x s (n:Int) f) (F162_2_D x s (n:Int) f) []=some (coll 6 fun(q:Nat)=>[g n q]):=by
   refine xV (n:=6) _ (by omega) (fun n=> by simp) (fun q s2 hq oD=>?_) fun i s=> rfl;unfold F162_2_B;rw[hf n q hn hq,ob,qJ (by simp; omega) (by simp; omega),ob]
  rw[e,ob,qJ (by simp; omega) (by simp; omega),ob]) (by intro i s; rfl),ob]
 rfl
theorem table_spec{x:qc}(h:qx x){r:Int}{g:Nat→Nat→Int}(hf:∀n q:Nat,n < x.L.length→q < 6→F297 x r (n:Int) (q:Int)=some (g n q)):F260 x r=some (tab6 x.L.length g):=by
 have hl:=h.ll;have hdl:=h.vc.dl;unfold F260;rw[xV (n:=x.L.length) (fun(n:Nat)=>[coll 6 fun(q:Nat)=>[g n q]]) (by omega) (fun n=> by simp) (by
  intro n s hn hsl;unfold F260_1_B;have e:qY (F260_2_S x r s (n:Int)) ([],0)=some (coll 6 fun(q:Nat)=>[g n q]):=by
   refine loopW_coll (n:=6) _ (fun n=> by simp) (fun q s2 hq oD=>?_) fun s2=>?_
   ·unfold F260_2_S
    simp only;rw[if_pos (by omega),hf n q hn hq,ob,qJ (by simp; omega) (by simp; omega),ob,qn (by omega) (by omega),ob]
   ·unfold F260_2_S
    simp only;rw[if_neg (by omega)]
  rw[e,ob,qJ (by simp; omega) (by simp; omega),ob]) (by intro i s; rfl),ob]
 rfl
theorem F165_t{a b:L1}(ha:a.length≤1000):jU (F165 a b) (a=b):=by
 unfold F165;by_cases hl:(a.length:Int)=b.length
 case neg=> rw[if_neg hl]; exact .of_false rfl fun e=> hl (by rw[e])
 rw[if_pos hl];obtain⟨t,h1,h2⟩:=all_for (B:=F165_1_B a b) (D:=F165_1_D a b) (fun i=> nth a i=nth b i) (show a.length≤1000000 by omega) (fun i hi=> by
  unfold F165_1_B;rw[qr hi,ob,qr (show i < b.length by omega),ob,zd hi,zd (show i < b.length by omega)];refine xI.iff (xI.ite fun e=> .yes) (by simp)) fun i=> rfl
 rw[h1,ob];have hl':a.length=b.length:=by omega
 cases t with
 |true=> exact .of_true rfl (nth_ext hl' fun i hi=> h2.1 rfl i hi)
 |false=> exact .of_false rfl fun e=>(by have:=h2.2 (fun i _=>(by rw[e])); cases this)
theorem F164_t{a b:aJ}(ha:a.length≤1000)(hr:∀r∈a,r.length≤1000):jU (F164 a b fun x y=> F165 x y) (a=b):=by
 unfold F164;by_cases hl:(a.length:Int)=b.length
 case neg=> rw[if_neg hl]; exact .of_false rfl fun e=> hl (by rw[e])
 rw[if_pos hl];obtain⟨t,h1,h2⟩:=all_for (B:=F164_1_B a b fun x y=> F165 x y) (D:=F164_1_D a b fun x y=> F165 x y) (fun i=> a.getD i []=b.getD i []) (show a.length≤1000000 by omega) (fun i hi=> by
  unfold F164_1_B;rw[qk hi [],ob,qk (show i < b.length by omega) [],ob];refine xI.iff ((F165_t (hr _ (qz hi []))).then_L fun _=> .yes) (by simp)) fun i=> rfl
 rw[h1,ob];have hl':a.length=b.length:=by omega
 cases t with
 |true=> exact .of_true rfl (getD_ext [] hl' fun i hi=> h2.1 rfl i (by omega))
 |false=> exact .of_false rfl fun e=>(by have:=h2.2 (fun i _=>(by rw[e])); cases this)
noncomputable def held(x:qc)(n:Nat)(q:Int):Int:=(F331 x (n:Int) q).getD 0
theorem xP{x:qc}(hs:qG x)(h:qx x){n:Nat}(hn:n < x.L.length){q:Int}(hq: -1≤q∧q≤5):∃Z B W,F184 x 6 (n:Int) q=some Z∧F186 x.C (n:Int)=some B∧qT x.C.P (dm x n) (Z++B) W∧F331 x (n:Int) q=some (W.length:Int)∧F183 q x.C x (n:Int)=some (W.length:Int)∧W.length≤8∧held x n q=(W.length:Int):=by
 have hp:=h.vc.p;have hd:=zA h hn;have hll:=h.ll;obtain⟨Z,z1, -,z3⟩:=zR hs h hn (r:=6) (q:=q) (by omega) (by omega);obtain⟨Z',y1,y2,y3⟩:=zR hs h hn (r:=13) (q:=q) (by omega) (by omega);have e:Z=Z':=near_far hs h hn (r:=6) (r':=13) (by omega) (by omega) (by omega) (by omega) (by omega) z1 y1;subst e;obtain⟨B,b1,b2,b3, -⟩:=bounds_full hs.c h.vc (n:=n) (by omega);have hZl:=zg z3;have hBl:=zg b3;have hdd:dc x.C n=dm x n:=rfl;have hr:Rows x.C.P (dm x n) (Z++B):=fun r hr=> by
  rcases wG.1 hr with q|q
  ·exact z3.ok r q
  ·exact b3.ok r q
 obtain⟨W,w1,w2,w3⟩:=qN hp hr (by omega) (by rw[wM]; omega);have hWl:=zg w3.red;have e1:F331 x (n:Int) q=some (W.length:Int):=by
  unfold F331;rw[y2,ob,qJ (by simp; omega) (by simp; omega),ob,vN,b1,ob,qJ (by omega) (by omega),ob,w1,ob]
 refine⟨Z,B,W,z1,b2,w3,e1,?_,by omega,by unfold held; rw[e1]; rfl⟩;unfold F183;rw[z1,ob,b2,ob,concat2 (by omega) (by omega),ob,w2,ob]
noncomputable def limN(x:qc)(n q:Nat):Int:=held x n (q:Int) - held x n ((q:Int) - 1)
theorem lim_eq{x:qc}(hs:qG x)(h:qx x){n q:Nat}(hn:n < x.L.length)(hq:q < 6):F161 x (n:Int) (q:Int)=some (limN x n q):=by
 obtain⟨Z,B,W, -, -, -, -,w1,w2,w3⟩:=xP hs h hn (q:=(q:Int)) (by omega);obtain⟨Z',B',W', -, -, -, -,y1,y2,y3⟩:=xP hs h hn (q:=(q:Int) - 1) (by omega);unfold F161 limN;rw[w1,ob,qn (by omega) (by omega),ob,y1,ob,qn (by omega) (by omega),w3,y3]
noncomputable def numN(x:qc)(r:Int)(n q:Nat):Int:=(F169 x r (n:Int) (q:Int)).getD 0
theorem six{x:qc}(hs:qG x)(h:qx x){n q:Nat}(hn:n < x.L.length)(hq:q < 6):numN x 6 n q=limN x n q:=by
 obtain⟨Z,B,W,z1,b1,w0, -,w1,w2,w3⟩:=xP hs h hn (q:=(q:Int)) (by omega);obtain⟨Y,B',W',y0,vi,w0', -,y1,y2,y3⟩:=xP hs h hn (q:=(q:Int) - 1) (by omega);rw[b1]at vi;cases vi;obtain⟨T,t1, -,t3⟩:=bottom_same hs h hn (r:=6) (q:=(q:Int)) (by omega) (by omega);have hd:=zA h hn;have hTl:=zg t3;have:=page6 hs h hn (q:=(q:Int)) (by omega) z1 y0 t1 b1 w0 w0';have e:F169 x 6 (n:Int) (q:Int)=some ((Z.length:Int) - (T.length:Int)):=by
  obtain⟨Z2,q1, -,q3⟩:=zR hs h hn (r:=6) (q:=(q:Int)) (by omega) (by omega);rw[z1]at q1;cases q1;have hZl:=zg q3;unfold F169;rw[z1,ob,t1,ob,qn (by omega) (by omega),ob]
 unfold numN limN;rw[e,w3,y3];show(Z.length:Int) - (T.length:Int)=_;omega
def AllSame(x:qc)(r:Int):Prop:=∀n,n < x.L.length→∀q,q < 6→numN x r n q=limN x n q
theorem impl_step{x:qc}(hs:qG x)(h:qx x){r:Int}(hr:0≤r∧r≤6):∃b:Bool,F147_S x (tab6 x.L.length (limN x)) r=some (if b=true then .inr r else .inl (r+1))∧(b=true↔AllSame x r):=by
 have hl:=h.ll;have hdl:=h.vc.dl;have hsl:=hs.l;have e1:(F162 x fun a b=> F163 a b x r)=some (tab6 x.L.length (numN x r)):=table_eq h fun n q hn hq=> by
  unfold F163;rw[(number_same hs h hn (by omega) (by omega)).1,ob]; rfl
 obtain⟨b,b1,b2⟩:=F164_t (a:=tab6 x.L.length (numN x r)) (b:=tab6 x.L.length (limN x)) (by rw[tab6_len]; omega) fun l hl=> by rw[tab6_rows l hl]; omega
 refine⟨b,?_,b2.trans tab6_eq⟩;unfold F147_S;rw[e1,ob,b1,ob];cases b with
 |true=> rw[if_pos rfl,if_pos rfl]
 |false=> rw[if_neg wD,if_neg wD,qn (by omega) (by omega),ob]
theorem spec_row{x:qc}(hs:qG x)(h:qx x){r:Int}{n:Nat}(hn:n < x.L.length)(s:Bool):∃b:Bool,qY (F325_3_S x (tab6 x.L.length (numN x r)) (n:Int)) (0,s)=some b∧(b=true↔s=true∧∀q,q < 6→numN x r n q=limN x n q):=by
 obtain⟨t,g1,g2⟩:=qV (S:=F325_3_S x (tab6 x.L.length (numN x r)) (n:Int)) (fun s=>(6 - s.1).toNat) (fun u=>∃k:Nat,u.1=k∧k≤6∧(u.2=true↔s=true∧∀q,q < k→numN x r n q=limN x n q)) (fun t=> t=true↔s=true∧∀q,q < 6→numN x r n q=limN x n q) (s:=(0,s)) ⟨0,rfl,by omega,by simp⟩ (by
  rintro⟨q,same⟩ ⟨k,rfl,hk,hs'⟩;simp only at hs';unfold F325_3_S;simp only;by_cases c:k < 6
  ·left
   rw[if_pos (by omega)];cases same with
   |false=>
    rw[if_neg wD,qn (by omega) (by omega),ob];refine⟨_,rfl,⟨k+1,by simp,by omega,?_⟩,by simp only; omega⟩;simp only[vQ,false_iff]at hs' ⊢;exact fun e=> hs' ⟨e.1,fun q hq=> e.2 q (by omega)⟩
   |true=>
    obtain⟨Z,B,W, -, -, -,w0,w1,w2,w3⟩:=xP hs h hn (q:=(k:Int)) (by omega);obtain⟨Z',B',W', -, -, -,y0,y1,y2,y3⟩:=xP hs h hn (q:=(k:Int) - 1) (by omega);rw[if_pos rfl,tab6_row hn,ob,qr (show k < ((List.range 6).map (numN x r n)).length by simpa using c),ob,w0,ob,qn (by omega) (by omega),ob,y0,ob,qn (by omega) (by omega),ob,qn (by omega) (by omega),ob];refine⟨_,rfl,⟨k+1,by simp,by omega,?_⟩,by simp only; omega⟩;have e:(W.length:Int) - (W'.length:Int)=limN x n k:=by unfold limN; rw[w3,y3]
    rw[e];simp only[List.getElem_map,List.getElem_range,decide_eq_true_eq];simp only[true_iff]at hs';constructor
    ·exact fun e=>⟨hs'.1,fun q hq=> by
      by_cases c2:q=k
      ·subst c2; exact e
      ·exact hs'.2 q (by omega)⟩
    ·exact fun e=> e.2 k (by omega)
  ·right
   have:k=6:=by omega
   subst this;rw[if_neg (by omega)];exact⟨_,rfl,hs'⟩)
 exact⟨t,g1,g2⟩
theorem spec_step{x:qc}(hs:qG x)(h:qx x){r:Int}(hr:0≤r∧r≤6):∃b:Bool,F325_1_S x r=some (if b=true then .inr r else .inl (r+1))∧(b=true↔AllSame x r):=by
 have hl:=h.ll;have hdl:=h.vc.dl;have hsl:=hs.l;have e1:F260 x r=some (tab6 x.L.length (numN x r)):=table_spec h fun n q hn hq=>(number_same hs h hn (by omega) (by omega)).2;obtain⟨b,g1,g2⟩:=qV (S:=F325_2_S x (tab6 x.L.length (numN x r))) (fun s=>((x.L.length:Int) - s.1).toNat) (fun u=>∃k:Nat,u.1=k∧k≤x.L.length∧(u.2=true↔∀n,n < k→∀q,q < 6→numN x r n q=limN x n q)) (fun t=> t=true↔AllSame x r) (s:=(0,true)) ⟨0,rfl,by omega,by simp⟩ (by
  rintro⟨n,same⟩ ⟨k,rfl,hk,hs'⟩;simp only at hs';unfold F325_2_S;simp only;rw[tab6_len];by_cases c:k < x.L.length
  ·left
   obtain⟨b,b1,b2⟩:=spec_row hs h (r:=r) c same;rw[if_pos (by omega),b1,ob,qn (by omega) (by omega),ob];refine⟨_,rfl,⟨k+1,by simp,by omega,?_⟩,by simp only; omega⟩;simp only;rw[b2,hs'];constructor
   ·rintro⟨e1,e2⟩ n hn
    by_cases c2:n=k
    ·subst c2; exact e2
    ·exact e1 n (by omega)
   ·exact fun e=>⟨fun n hn=> e n (by omega),e k (by omega)⟩
  ·right
   have:k=x.L.length:=by omega
   subst this;rw[if_neg (by omega)];exact⟨_,rfl,hs'⟩)
 refine⟨b,?_,g2⟩;unfold F325_1_S;rw[e1,ob,g1,ob];cases b with
 |true=> rw[if_pos rfl,if_pos rfl]
 |false=> rw[if_neg wD,if_neg wD,qn (by omega) (by omega),ob]
theorem search{S:Int→Option (Int⊕Int)}{P:Int→Prop}(hS:∀r,0≤r∧r≤6→∃b:Bool,S r=some (if b=true then .inr r else .inl (r+1))∧(b=true↔P r))(h6:P 6):∃t,qY S 0=some t∧(0≤t∧t≤6)∧P t∧∀u,0≤u→u < t→¬P u:=by
 obtain⟨t,g1,g2⟩:=qV (S:=S) (fun s=>(6 - s).toNat) (fun s=>(0≤s∧s≤6)∧∀u,0≤u→u < s→¬P u) (fun t=>(0≤t∧t≤6)∧P t∧∀u,0≤u→u < t→¬P u) (s:=0) ⟨by omega,fun u h1 h2=> by omega⟩ (by
  rintro s ⟨h1,h2⟩;obtain⟨b,b1,b2⟩:=hS s h1;cases b with
  |true=> right; exact⟨s,by rw[b1,if_pos rfl],h1,b2.1 rfl,h2⟩
  |false=>
   left;have hn:¬P s:=fun q=> by have:=b2.2 q; cases this
   have:s≠6:=fun e=> hn (by rw[e]; exact h6);refine⟨s+1,by rw[b1,if_neg wD],⟨by omega,fun u u1 u2=>?_⟩,by omega⟩;by_cases c:u=s
   ·rw[c]; exact hn
   ·exact h2 u u1 (by omega))
 exact⟨t,g1,g2⟩
theorem app_rows{p:Int}{w:Nat}{A B:aJ}(hA:Rows p w A)(hB:Rows p w B):Rows p w (A++B):=fun r hr=>(wG.1 hr).elim (hA r) (hB r)
theorem hole_count{p:Int}{w:Nat}(hp:IsP p){B K E:aJ}(hB:Red p w B)(hK:Red p w K)(hBK:∀b∈B,Sp p w K b)(hE:qT p w (K.map (rest p B)) E):K.length=B.length+E.length:=by
 have dA:1 < p:=by have:=hp.range; omega
 have aK:0 < p:=by omega
 have hsame:qT p w (B++K) K:=⟨hK,fun v=>⟨fun h=> h.mono fun r hr=> wS _ hr,fun h=> Sp.into aK hK.ok (fun r hr=>(wG.1 hr).elim (hBK r) fun q=> .mem aK hK.ok q) h⟩⟩;have L:=rest_lin aK hB.ok fun r hr=>(hB.one r hr).1;refine rank_pair dA hp.inv hB.ok (qT.self hB) (Z:=K) (f:=id) (g:=rest p B) (fun z hz=> hK.ok z hz) (fun z hz=> jY aK hB.ok (hK.ok z hz)) (fun k hk=>?_) (by rw[List.map_id]; exact hsame) hE;have hT:Rows p w (K.take k):=fun r hr=> hK.ok r (wP hr);have hv:=hK.ok _ (wC hk);have hBT:=app_rows hB.ok hT;rw[List.map_id];show Sp p w (B++K.take k) K[k]↔_;constructor
 ·intro h
  have h':=L.sp aK hBT h;refine Sp.into aK (L.rows hT) (fun r hr=>?_) h';obtain⟨b,hb,rfl⟩:=wL.1 hr;rcases wG.1 hb with q|q
  ·rw[(jx aK hB (hB.ok b q)).2 (.mem aK hB.ok q)]; exact .zero
  ·exact .mem aK (L.rows hT) (wL.2 ⟨b,q,rfl⟩)
 ·intro h
  obtain⟨u,hu,e⟩:=L.lift aK hT h;have hBs:∀r∈B,Sp p w (B++K.take k) r:=fun r hr=> .mem aK hBT (wT _ hr);have hu':Sp p w (B++K.take k) u:=hu.mono fun r hr=> wS _ hr;refine(xe aK hBT hB.ok hBs hv).1 ?_;rw[←e];exact(xe aK hBT hB.ok hBs (hu.ok aK hT)).2 hu'
theorem sq_dot{x:qe}(h:zp x){k i j:Nat}(hk:k+2 < x.D.length)(hi:i < dc x (k+2))(hj:j < dc x k):Cg x.P (dot (nth (qE (x.M.getD (k+1) []) i)) (x.M.getD k []) (dc x (k+1)) j) 0:=by
 have hml:=h.ml;have T2:=maps_tab h (k:=k+1) hk;have T1:=maps_tab h (k:=k) (by omega);have hr:=row_ok T2 hi;have d0:=dc_le h k;have d1:=dc_le h (k+1);have H:LinOK x.P (dc x k) (qE (x.M.getD (k+1) []) i) (x.M.getD k []):=kw h.p T1.len T1.rows (by omega) (by omega) hr;have hz:∀y∈lin x.P (dc x k) (qE (x.M.getD (k+1) []) i) (x.M.getD k []),y=0:=by
  have:=h.sq (k+1) (by omega) (by omega) _ (zJ (by rw[T2.len]; exact hi));rw[vC]at this;exact this
 have h1:=lin_at H hj;have hll:=lin_len H;rw[zd (by omega),hz _ (wC (by omega)),hr.len]at h1;exact h1.symm
theorem lin_u40{p:Int}(hp:IsP p){c w:Nat}{m:aJ}(hl:m.length=c)(hm:Rows p w m)(hc:c≤1000)(hw:w≤1000){i:Nat}(hi:i < c):lin p w (jN c i) m=qE m i:=by
 have dA:1 < p:=by have:=hp.range; omega
 have hv:=unitv_ok dA hi;have H:=kw hp hl hm hc hw hv;have hr:=hm _ (zJ (by rw[hl]; exact hi));refine(ku H).ext hr fun j hj=>(lin_at H hj).trans ?_;rw[hv.len];have e:dot (nth (jN c i)) m c j=dot (fun k=> if k=i then 1 else 0) m c j:=zw fun k _=> by rw[xC hi]
 rw[e,dot_unit hi];exact .refl _ _
theorem lin_full{p:Int}(hp:IsP p){c w:Nat}{m:aJ}(hl:m.length=c)(hm:Rows p w m)(hc:c≤1000)(hw:w≤1000):Lin p c w fun u=> lin p w u m:=by
 have L:=lin_take hp hl hm hc hw (b:=0);have e:∀u,qP p c u→u.take c=u:=fun u hu=> by rw[←hu.len,vH]
 refine⟨fun u hu=> ku (kw hp hl hm hc hw hu),fun u v k hu hv=>?_⟩;have aK:0 < p:=by have:=hp.range; omega
 have this:lin p w ((subv p u v k).take c) m=subv p (lin p w (u.take c) m) (lin p w (v.take c) m) k:=L.sub u v k hu hv;rw[e u hu,e v hv,e _ (qU aK hu.len hv.len)]at this;exact this
theorem null_count{p:Int}{w n:Nat}(hp:IsP p){rows K E:aJ}(hl:rows.length=n)(hr:Rows p w rows)(hn:n≤1000)(hw:w≤1000)(hK:Red p n K)(hs:∀c,Sp p n K c↔qP p n c∧∀j,j < w→Cg p (dot (nth c) rows rows.length j) 0)(hE:qT p w rows E):K.length+E.length=n:=by
 have dA:1 < p:=by have:=hp.range; omega
 have aK:0 < p:=by omega
 have L:=lin_full hp hl hr hn hw;have hz:∀u,qP p n u→(lin p w u rows=zv w↔Sp p n K u):=fun u hu=> by
  have H:=kw hp hl hr hn hw hu;have V:=ku H;rw[hs u];constructor
  ·intro e
   refine⟨hu,fun j hj=>?_⟩;have:=lin_at H hj;rw[e,zn,hu.len,←hl]at this;exact this.symm
  ·rintro⟨-,q⟩
   refine V.ext (jc aK w) fun j hj=>?_;have:=lin_at H hj;rw[hu.len,←hl]at this;rw[zn];exact this.trans (q j hj)
 have hU:=zX dA n;have e1:qT p n (K++(zy n).map id) (zy n):=by
  rw[List.map_id];exact⟨hU,fun v=>⟨fun q=> q.mono fun r hr=> wS _ hr,fun q=> units_sp dA (q.ok aK (app_rows hK.ok hU.ok))⟩⟩
 have e2:(zy n).map (fun u=> lin p w u rows)=rows:=by
  refine yX (by simp[zy,hl]) fun i h1 h2=>?_;simp only[zy,List.getElem_map,List.getElem_range];rw[lin_u40 hp hl hr hn hw (by omega),qX h2]
 have:=rank_pair dA hp.inv hK.ok (qT.self hK) (w':=w) (Z:=zy n) (f:=id) (g:=fun u=> lin p w u rows) (fun z hz=> hU.ok z hz) (fun z hz=> L.ok z (hU.ok z hz)) (fun k hk=>?_) e1 (E':=E) (by rw[e2]; exact hE)
 ·rw[jO]at this; omega
 ·have hT:Rows p n ((zy n).take k):=fun r hr=> hU.ok r (wP hr)
  have hv:=hU.ok _ (wC hk);have hKT:=app_rows hK.ok hT;rw[List.map_id];show Sp p n (K++(zy n).take k) (zy n)[k]↔_;constructor
  ·intro q
   refine Sp.into aK (L.rows hT) (fun r hr=>?_) (L.sp aK hKT q);obtain⟨b,hb,rfl⟩:=wL.1 hr;rcases wG.1 hb with t|t
   ·rw[(hz b (hK.ok b t)).2 (.mem aK hK.ok t)]; exact .zero
   ·exact .mem aK (L.rows hT) (wL.2 ⟨b,t,rfl⟩)
  ·intro q
   obtain⟨t,ht,e⟩:=L.lift aK hT q;have hto:=ht.ok aK hT;have hd:=qU (k:=1) aK hv.len hto.len;have lk:Sp p n K (subv p (zy n)[k] t 1):=(hz _ hd).1 (by
    have h1:lin p w (subv p (zy n)[k] t 1) rows=subv p (lin p w (zy n)[k] rows) (lin p w t rows) 1:=L.sub _ t 1 hv hto;have h2:lin p w t rows=lin p w (zy n)[k] rows:=e;have h3:qP p w (lin p w (zy n)[k] rows):=L.ok _ hv;rw[h1,h2,sub_self aK h3])
   have ht':Sp p n (K++(zy n).take k) t:=ht.mono fun r hr=> wS _ hr;have hk':Sp p n (K++(zy n).take k) (subv p (zy n)[k] t 1):=lk.mono fun r hr=> wT _ hr;exact(sub_iff aK hKT hv ht' 1).1 hk'
noncomputable def rkOf(p:Int)(w:Nat)(m:aJ):Nat:= @dite Nat (∃E,qT p w m E) (Classical.propDecidable _) (fun h=> h.choose.length) fun _=> 0
theorem rkOf_eq{p:Int}{w:Nat}{m E:aJ}(hp:1 < p)(hE:qT p w m E):rkOf p w m=E.length:=by
 unfold rkOf;have h:∃E,qT p w m E:=⟨E,hE⟩;rw[dif_pos h,h.choose_spec.same hp hE]
noncomputable def rkC(x:qe)(n:Nat):Nat:=if n+1 < x.D.length then rkOf x.P (dc x n) (x.M.getD n [])else 0
theorem cyc_count{x:qe}(hx:zx x)(h:xZ x){n:Nat}(hn:n < x.D.length):∃K,F98 x (n:Int)=some K∧F100 x (n:Int)=some K∧K.length+(if n=0 then 0 else rkC x (n - 1))=dc x n:=by
 have dA:1 < x.P:=by have:=h.p.range; omega
 have hd:=h.dim hn;have hml:=h.ml;have hxd:=hx.d;unfold F98 F100;rw[F99_at hx.d hn,ob];rcases Nat.eq_zero_or_pos n with h0|h0
 ·subst h0
  have hdn:x.D.getD 0 0=(dc x 0:Int):=dc_atw h hn;rw[if_pos (by omega),show((0:Nat):Int)=0 from rfl,F76_0 hx.d hn hdn (by omega),ob,hdn,ky h.p (by omega),ob];have rU:=F102_at hx.d hn;rw[hdn]at rU;rw[show(0:Int)=((0:Nat):Int) from rfl,rU,ob,F124_eq (by omega),ob];exact⟨_,rfl,rfl,by rw[jO,if_pos rfl]; rfl⟩
 ·obtain⟨k,rfl⟩:∃k,n=k+1:=⟨n - 1,by omega⟩
  have hk:k < x.M.length:=by omega
  have ht:=h.tab k hk;have hdk:=h.dim (show k < x.D.length by omega);have e1:getI x.M (k:Int)=some (x.M.getD k []):=qk hk [];have hr:Rows x.P (dc x k) (x.M.getD k []):=fun r hr=>(ht.2 r hr).vec;have ry:F76 x ((k+1:Nat):Int)=some (x.M.getD k []):=by
   unfold F76;rw[qn (by omega) (by omega),ob,xy,ob,if_pos (by simp; omega),qn (by omega) (by omega),ob,show((k+1:Nat):Int) - 1=(k:Int) by omega,e1,ob]
  have hlen:=ht.1;have hdc:dc x (k+1)=(x.M.getD k []).length:=by unfold dc; omega
  have hw:=xW h k;obtain⟨E,hE, -⟩:=ech_len dA h.p.inv hr;have hrk:rkC x k=E.length:=by unfold rkC; rw[if_pos hn,rkOf_eq dA hE]
  obtain⟨K,k1,k2,k3,k4⟩:=kz h.p hr (by omega) (by omega);have hc:=null_count h.p rfl hr (by omega) (by omega) k3 k4 hE;rw[ry,ob,←hlen,k1,ob,if_neg (by omega),jV hx.d,ob,if_neg (by omega),qn (by omega) (by omega),ob,show((k+1:Nat):Int) - 1=(k:Int) by omega,e1,ob,k2,ob,hdc];exact⟨_,rfl,rfl,by rw[if_neg (by omega),vC,hrk]; exact hc⟩
theorem bnd_count{x:qe}(hx:zx x)(h:xZ x){n:Nat}(hn:n < x.D.length):∃B,F251 x (n:Int)=some B∧B.length=rkC x n:=by
 have dA:1 < x.P:=by have:=h.p.range; omega
 have hd:=hx.d;have hml:=h.ml;have hdl:=h.dl;obtain⟨B0,c1,c2,c3⟩:=bounds_wide hx h hn;unfold rkC;by_cases c:n+1 < x.D.length
 ·have ht:=h.tab n (by omega)
  have hr:Rows x.P (dc x n) (x.M.getD n []):=fun r hr=>(ht.2 r hr).vec;have hl:=ht.1;have pQ:=h.dim c;have:=xW h n;obtain⟨B,b1,b2,b3⟩:=qN h.p hr (by omega) (by omega);have e:F251 x (n:Int)=some B:=by
   unfold F251;rw[qn (by omega) (by omega),ob,show(n:Int)+1=((n+1:Nat):Int) by omega,F76_eq hx.d c (by omega),ob,b1,ob]
  exact⟨B,e,by rw[if_pos c,rkOf_eq dA b3]⟩
 ·have e:F186 x (n:Int)=some []:=by
   unfold F186;rw[if_neg (by omega),jV hx.d,ob];by_cases c0:(x.M.length:Int)≤(n:Int)
   ·first|rw[if_pos (by omega)]|skip
   ·omega
  rw[e]at c2;have:=wA c2;subst this;exact⟨[],c1,by rw[if_neg c]; rfl⟩
theorem wide_rows{x:qe}(h:xZ x){k:Nat}(hk:k+1 < x.D.length):(x.M.getD k []).length=dc x (k+1)∧Rows x.P (dc x k) (x.M.getD k []):=by
 have hml:=h.ml;have ht:=h.tab k (by omega);have hd:=h.dim hk;exact⟨by have:=ht.1; unfold dc; omega,fun r hr=>(ht.2 r hr).vec⟩
structure zB (s:qo):Prop where
 at0:0≤s.at_
 len:s.code.length≤1099511627776
 byte:∀b∈s.code,0≤b.val∧b.val≤255
theorem mask_ok(x:Int):0≤Go.IntKind.wrap .u64 (BitVec.ofInt (Go.IntKind.bits .u64) x &&& BitVec.ofInt (Go.IntKind.bits .u64) 16777215).toNat∧Go.IntKind.wrap .u64 (BitVec.ofInt (Go.IntKind.bits .u64) x &&& BitVec.ofInt (Go.IntKind.bits .u64) 16777215).toNat≤16777215:=by
 have h:(BitVec.ofInt (Go.IntKind.bits .u64) x &&& BitVec.ofInt (Go.IntKind.bits .u64) 16777215).toNat≤16777215:=by
  rw[BitVec.toNat_and];exact vW Nat.and_le_right (by decide)
 have e:∀m:Nat,m≤16777215→Go.IntKind.wrap .u64 (m:Int)=(m:Int):=fun m hm=> by
  unfold Go.IntKind.wrap;simp[Go.IntKind.bits,Go.IntKind.signed];omega
 rw[e _ h];omega
theorem zC{s:qo}(hs:zB s)(n:Int):∃v s',F416 s n=some ⟨v,s'⟩∧zB s'∧0≤v∧(1≤n→v < n)∧(n < 1→v=0):=by
 have h1:=hs.at0;have h2:=hs.len;unfold F416;by_cases c:n < 1
 ·rw[if_pos c]; exact⟨_,_,rfl,hs,by omega,fun q=> by omega,fun _=> rfl⟩
 rw[if_neg c];obtain⟨m1,m2⟩:=mask_ok (Int.fdiv (Go.IntKind.wrap .u64 ((Go.IntKind.wrap .u64 (s.hash*6364136223846793005))+1442695040888963407)) (2^min 33 (Go.IntKind.bits .u64)));generalize Go.IntKind.wrap .u64 (BitVec.ofInt (Go.IntKind.bits .u64) (Int.fdiv (Go.IntKind.wrap .u64 ((Go.IntKind.wrap .u64 (s.hash*6364136223846793005))+1442695040888963407)) (2^min 33 (Go.IntKind.bits .u64)))&&& BitVec.ofInt (Go.IntKind.bits .u64) 16777215).toNat=X at m1 m2 ⊢;rw[qn (by omega) (by omega),ob];have md:∀Y:Int,0≤Y→remI Y n=some (Y.tmod n)∧0≤Y.tmod n∧Y.tmod n < n:=fun Y hY=>⟨jE (by omega),Int.tmod_nonneg _ hY,uA _ (by omega)⟩;by_cases c2:s.at_ < (s.code.length:Int)
 ·obtain⟨i,hi⟩:∃i:Nat,s.at_=(i:Int):=⟨s.at_.toNat,by omega⟩
  have hil:i < s.code.length:=by omega
  obtain⟨b1,b2⟩:=hs.byte _ (wC hil);obtain⟨r1,r2,r3⟩:=md (X+s.code[i].val) (by omega);rw[if_pos c2,hi,qr hil,ob,qn (by omega) (by omega),ob,qn (by omega) (by omega),ob,qn (by omega) (by omega),ob,r1,ob];exact⟨_,_,rfl,⟨by simp only; omega,h2,hs.byte⟩,r2,fun _=> r3,fun q=> absurd q c⟩
 ·obtain⟨r1,r2,r3⟩:=md X m1
  rw[if_neg c2,r1,ob];exact⟨_,_,rfl,⟨h1,h2,hs.byte⟩,r2,fun _=> r3,fun q=> absurd q c⟩
theorem xM{s:qo}(hs:zB s){l:L1}(hl:l≠ [])(hb:l.length≤1000):∃v s',F412 s l=some ⟨v,s'⟩∧zB s'∧v∈l:=by
 have h0:0 < l.length:=List.length_pos_iff.2 hl;obtain⟨v,s',e,h1,h2,h3, -⟩:=zC hs (l.length:Int);have h4:=h3 (by omega);obtain⟨i,hi⟩:∃i:Nat,v=(i:Int):=⟨v.toNat,by omega⟩;subst hi;have hil:i < l.length:=by omega
 unfold F412;rw[e,ob,qr hil,ob];exact⟨_,_,rfl,h1,wC hil⟩
theorem near_ok{s:qo}(hs:zB s){m:Int}(h0: -1000≤m)(h1:m≤1000000):∃v s',F411 s m=some ⟨v,s'⟩∧zB s'∧ -4611686018427387904≤v∧v≤1099511627776:=by
 obtain⟨v,s',e,k1,k2,k3, -⟩:=zC hs 14;unfold F411;rw[e,ob];simp only;by_cases c:v=0
 ·obtain⟨u,t,e2,k4,k5⟩:=xM k1 (l:=[(-1),m+1,1099511627776,(-4611686018427387904)]) (by simp) (by simp)
  rw[if_pos c,qn (by omega) (by omega),ob,e2,ob];refine⟨u,t,rfl,k4,?_⟩;simp only[vD,yL,or_false]at k5;rcases k5 with rfl|rfl|rfl|rfl <;> omega
 ·obtain⟨u,t,e2,k4,k5,k6,k7⟩:=zC k1 (m+1)
  rw[if_neg c,qn (by omega) (by omega),ob,e2,ob];refine⟨u,t,rfl,k4,by omega,?_⟩;by_cases q:1≤m+1
  ·have:=k6 q; omega
  ·have:=k7 (by omega); omega
theorem vector_ok{s:qo}(hs:zB s){p:Int}(hp:1≤p){n:Nat}(hn:n≤1000):∃v s',F424 s p (n:Int)=some ⟨v,s'⟩∧zB s'∧v.length=n∧∀y∈v,0≤y∧y < p:=by
 obtain⟨c,s1,e,k1,k2,k3, -⟩:=zC hs 3;unfold F424;rw[e,ob];obtain⟨t,g1,g2⟩:=qV (S:=F424_1_S p ⟨c,s1⟩) (fun s=>(s.2.2.2.2).toNat) (fun s=>∃ (q:qo) (o:L1) (m:Nat),s=(q.code,q.at_,q.hash,o,(m:Int))∧zB q∧o.length+m=n∧∀y∈o,0≤y∧y < p)
  (fun t=>∃ (q:qo) (o:L1),t=(q.code,q.at_,q.hash,o)∧zB q∧o.length=n∧∀y∈o,0≤y∧y < p) (s:=(s1.code,s1.at_,s1.hash,[],(n:Int))) ⟨s1,[],n,rfl,k1,by simp,fun y hy=> nomatch hy⟩ (by
  rintro _ ⟨q,o,m,rfl,h1,h2,h3⟩;unfold F424_1_S;simp only;by_cases cm:0 < (m:Int)
  ·left
   rw[if_pos cm];have ext:∀y,0≤y→y < p→∀z∈o++[y],0≤z∧z < p:=fun y y0 y1 z hz=> by
    rcases wG.1 hz with hz|hz
    ·exact h3 z hz
    ·rw[List.mem_singleton.1 hz]; exact⟨y0,y1⟩
   by_cases cc:c=0
   ·obtain⟨x,q2,e2,j1,j2,j3, -⟩:=zC h1 p
    rw[if_pos cc,e2,ob,qJ (by simp; omega) (by simp; omega),ob,qn (by omega) (by omega),ob];exact⟨_,rfl,⟨q2,o++[x],m - 1,by simp only[wF,true_and]; omega,j1,by simp; omega,ext x j2 (j3 hp)⟩,by simp only; omega⟩
   ·obtain⟨x0,q1,e1,i1,i2,i3, -⟩:=zC h1 2
    rw[if_neg cc,e1,ob];simp only;by_cases c0:x0=0
    ·obtain⟨x,q2,e2,j1,j2,j3, -⟩:=zC i1 p
     rw[if_pos c0,e2,ob,qJ (by simp; omega) (by simp; omega),ob,qn (by omega) (by omega),ob];exact⟨_,rfl,⟨q2,o++[x],m - 1,by simp only[wF,true_and]; omega,j1,by simp; omega,ext x j2 (j3 hp)⟩,by simp only; omega⟩
    ·rw[if_neg c0,qJ (by simp; omega) (by simp; omega),ob,qn (by omega) (by omega),ob]
     exact⟨_,rfl,⟨q1,o++[0],m - 1,by simp only[wF,true_and]; omega,i1,by simp; omega,ext 0 (by omega) (by omega)⟩,by simp only; omega⟩
  ·right
   rw[if_neg cm];exact⟨_,rfl,⟨q,o,rfl,h1,by omega,h3⟩⟩)
 obtain⟨q,o,rfl,h1,h2,h3⟩:=g2;rw[g1,ob];exact⟨o,q,rfl,h1,h2,h3⟩
theorem from_ok{code:List U8}(hl:code.length≤1099511627776)(hb:∀b∈code,0≤b.val∧b.val≤255):∃s,F405 code=some s∧zB s:=by
 unfold F405;obtain⟨t,g1, -⟩:=qV (S:=F405_S code) (fun s=>(4096 - s.1).toNat) (fun s=> 0≤s.1) (fun _=> True) (s:=(0,Go.IntKind.wrap .u64 (12731+Go.IntKind.wrap .u64 (code.length:Int)))) (vV 0) (by
  rintro⟨i,h⟩ h0;simp only at h0;unfold F405_S;simp only;by_cases c1:i < (code.length:Int)
  ·rw[if_pos c1]
   by_cases c2:i < 4096
   ·left
    obtain⟨k,rfl⟩:∃k:Nat,i=(k:Int):=⟨i.toNat,by omega⟩;rw[if_pos c2,qr (by omega),ob,qn (by omega) (by omega),ob];exact⟨_,rfl,by simp only; omega,by simp only; omega⟩
   ·right; rw[if_neg c2]; exact⟨_,rfl,trivial⟩
  ·right; rw[if_neg c1]; exact⟨_,rfl,trivial⟩)
 rw[g1,ob];exact⟨_,rfl,⟨by simp only; omega,hl,hb⟩⟩
def gT(D:L1)(val:Nat→Nat→Nat→Int):T3s:=(List.range (D.length - 1)).map fun k=>(List.range (D.getD (k+1) 0).toNat).map fun i=>(List.range (D.getD k 0).toNat).map fun j=> val k i j
theorem gT_at{D:L1}{val:Nat→Nat→Nat→Int}{k:Nat}(hk:k+1 < D.length):(gT D val).getD k []=(List.range (D.getD (k+1) 0).toNat).map fun i=>(List.range (D.getD k 0).toNat).map fun j=> val k i j:=by
 unfold gT;rw[gC,gF,gR (by omega)]; rfl
theorem gT_row{D:L1}{val:Nat→Nat→Nat→Int}{k i:Nat}(hk:k+1 < D.length)(hi:i < (D.getD (k+1) 0).toNat):((gT D val).getD k []).getD i []=(List.range (D.getD k 0).toNat).map fun j=> val k i j:=by
 rw[gT_at hk,gC,gF,gR hi]; rfl
theorem gT_len{D:L1}{val:Nat→Nat→Nat→Int}:(gT D val).length=D.length - 1:=by simp[gT]
theorem gT_shp{D:L1}{val:Nat→Nat→Nat→Int}:Shp (zM D) (gT D val):=by
 have hz:(zM D).length=D.length - 1:=by simp[zM]
 refine⟨by rw[hz,gT_len],fun k hk=>?_,fun k hk i hi=>?_⟩
 ·rw[gT_len]at hk
  rw[gT_at (by omega),zM_at hk]; simp[zT]
 ·rw[gT_len]at hk
  rw[gT_at (by omega)]at hi;simp only[vM,List.length_range]at hi;rw[gT_row (by omega) hi,zM_at hk];unfold zT;rw[gC,List.getElem?_replicate,if_pos hi]; simp
theorem gT_num{D:L1}{val:Nat→Nat→Nat→Int}{k i j:Nat}(h:InT (zM D) k i j):zh (gT D val) k i j=val k i j:=by
 obtain⟨h1,h2,h3⟩:=inT_zM.1 h;unfold zh;rw[gT_row h1 h2,gC,gF,gR h3]; rfl
theorem gT_eq{D:L1}{val:Nat→Nat→Nat→Int}{r:T3s}(hs:Shp r (zM D))(hv:∀k i j,InT (zM D) k i j→zh r k i j=val k i j):r=gT D val:=
 (hs.trans gT_shp).eq fun k i j hin=> by
  have hz:=gT_shp.inT hin;rw[gT_num hz,hv k i j hz]
theorem gT_wide{p:Int}{D:L1}{val:Nat→Nat→Nat→Int}(hp:IsP p)(h1:1≤D.length∧D.length≤100)(hd:∀d∈D,0≤d∧d≤100)(hv:∀k i j,InT (zM D) k i j→0≤val k i j∧val k i j < p):xZ (⟨p,D,gT D val⟩:qe):=by
 refine⟨hp,h1,by simp only[gT_len]; omega,hd,fun k hk=>?_⟩;simp only[gT_len]at hk;have d0:=hd _ (qz (show k < D.length by omega) 0);have d1:=hd _ (qz (show k+1 < D.length by omega) 0);unfold xd;simp only;rw[gT_at (by omega)];refine⟨by simp only[vM,List.length_range]; omega,fun r hr=>?_⟩;obtain⟨i,hi,rfl⟩:=wL.1 hr;have hi':=wV.1 hi;refine⟨by simp only[vM,List.length_range]; omega,fun y hy=>?_⟩;obtain⟨j,hj,rfl⟩:=wL.1 hy;have hj':=wV.1 hj;exact hv k i j (inT_zM.2 ⟨by omega,hi',hj'⟩)
theorem jT{β:Type}{n i:Nat}{f:Nat→β}{d:β}(h:i < n):((List.range n).map f).getD i d=f i:=by
 rw[gC,gF,gR h]; rfl
theorem gT_valid{p:Int}{D:L1}{val:Nat→Nat→Nat→Int}(hp:IsP p)(h1:1≤D.length∧D.length≤6)(hd:∀d∈D,0≤d∧d≤8)(hv:∀k i j,InT (zM D) k i j→0≤val k i j∧val k i j < p)
  (hs:∀k i l,k+2 < D.length→i < (D.getD (k+2) 0).toNat→l < (D.getD k 0).toNat→Cg p (sumI (fun j=> val (k+1) i j*val k j l) (D.getD (k+1) 0).toNat) 0):zp (⟨p,D,gT D val⟩:qe):=by
 have W:=gT_wide hp (D:=D) ⟨h1.1,by omega⟩ (fun d h=> by have:=hd d h; omega) hv;have aK:0 < p:=by have:=hp.range; omega
 have hg:∀k,(D.getD k 0).toNat≤8:=fun k=> by
  by_cases hk:k < D.length
  ·have:=hd _ (qz hk 0); omega
  ·rw[gC,gG (by omega)]; simp
 have hrows:∀k,k+1 < D.length→((gT D val).getD k []).length=(D.getD (k+1) 0).toNat∧Rows p (D.getD k 0).toNat ((gT D val).getD k []):=fun k hk=> wide_rows W hk;refine⟨⟨hp,h1,by simp only[gT_len]; omega,hd⟩,W.tab,fun k0 h0 lk=>?_⟩;obtain⟨k,rfl⟩:∃k,k0=k+1:=⟨k0 - 1,by omega⟩;simp only[gT_len]at lk;have hk2:k+2 < D.length:=by omega
 have a1:=hrows (k+1) hk2;have a0:=hrows k (by omega);unfold SqAt;simp only[vC];intro row hrow z hz;obtain⟨i,hi,rfl⟩:=xN.1 hrow;have hrv:=a1.2 _ hrow;have H:LinOK p (D.getD k 0).toNat (qE ((gT D val).getD (k+1) []) i) ((gT D val).getD k []):=kw hp a0.1 a0.2 (by have:=hg (k+1); omega) (by have:=hg k; omega) hrv;have hll:=lin_len H;have V:=ku H;obtain⟨l,hl,rfl⟩:=wN hz;have hl':l < (D.getD k 0).toNat:=by omega
 have h2:=lin_at H hl';rw[hrv.len]at h2;rw[a1.1]at hi;have e:dot (nth (qE ((gT D val).getD (k+1) []) i)) ((gT D val).getD k []) (D.getD (k+1) 0).toNat l=sumI (fun j=> val (k+1) i j*val k j l) (D.getD (k+1) 0).toNat:=zw fun j hj=> by
  have e1:nth (qE ((gT D val).getD (k+1) []) i) j=val (k+1) i j:=gT_num (inT_zM.2 ⟨hk2,hi,hj⟩);have e2:nth (qE ((gT D val).getD k []) j) l=val k j l:=gT_num (inT_zM.2 ⟨by omega,hj,hl'⟩);rw[e1,e2]
 rw[e]at h2;have:=(h2.trans (hs k i l hk2 hi hl')).eq (V.rng l hl').1 (V.rng l hl').2 (vV _) aK
 rwa[zd hl]at this
theorem sq_sum{x:qe}(h:zp x){k i l:Nat}(hk:k+2 < x.D.length)(hi:i < dc x (k+2))(hl:l < dc x k):Cg x.P (sumI (fun j=> zh x.M (k+1) i j*zh x.M k j l) (dc x (k+1))) 0:=sq_dot h hk hi hl
theorem kn{α:Type}{l:List α}{n:Nat}(d:α)(h:n < l.length):l.take n++[l.getD n d]=l.take (n+1):=by
 rw[gC,gE h];exact wW h
theorem eq_loop'{n:Nat}{B:Int→Unit→Option (Unit⊕(Unit⊕Bool))}{D:Int→Unit→Option (Unit⊕Bool)}(hn:n≤1048576)(hB:∀ (i:Nat),i < n→B i ()=some (.inl ()))(hD:∀i,D i ()=some (.inl ())):forR 0 (n:Int) B D ()=some (.inl ()):=by
 obtain⟨t,g1,g2⟩:=qu (B:=B) (D:=D) n rfl (by omega) (fun _ _=> True) (fun t=> t= .inl ()) (s:=()) trivial (fun i s hi _=> .inl ⟨(),hB i hi,trivial⟩) (fun s _=>⟨_,hD _,rfl⟩);rw[g1,g2]
theorem F156_same{l:L1}(h:l.length≤1000):F156 l l=some true:=by
 unfold F156;rw[if_pos rfl,eq_loop' (by omega) (fun i hi=> by
  unfold F156_1_B;rw[qk hi 0,ob,ob,if_pos rfl]) fun i=> rfl,ob]
theorem F150_eq{l:L1}(h:l.length≤1000)(hb:∀y∈l, -1000≤y∧y≤1000):F150 l=some (sumI (nth l) l.length):=by
 unfold F150;have key:∀n,n≤l.length→ -1000*(n:Int)≤sumI (nth l) n∧sumI (nth l) n≤1000*n:=fun n=> by
  induction n with
  |zero=> intro _; simp[sumI]
  |succ n ih=>
   intro hn;have:=ih (by omega);have hy:=hb _ (qz (show n < l.length by omega) 0);simp only[sumI];unfold nth at this ⊢;omega
 obtain⟨t,g1,g2⟩:=qu (B:=F150_1_B l) (D:=F150_1_D l) l.length rfl (by omega) (fun n s=> s=sumI (nth l) n) (fun t=> t=sumI (nth l) l.length) (s:=0) rfl (by
  rintro n s hn rfl;left;have a:=key n (by omega);have hy:=hb _ (qz hn 0);refine⟨sumI (nth l) (n+1),?_,rfl⟩;unfold F150_1_B;rw[qk hn 0,ob,qn (by omega) (by omega),ob];rfl) fun s hs=>⟨s,rfl,hs⟩
 have pL:forR 0 (l.length:Int) (F150_1_B l) (F150_1_D l) 0=some t:=g1;rw[pL,g2,ob]
theorem wide_small{x:qe}(h:xZ x):zx x:=by
 have hml:=h.ml;have hdl:=h.dl;refine⟨by omega,by omega,fun m hm=>?_⟩;obtain⟨k,hk,rfl⟩:=wN hm;obtain⟨r1,r2⟩:=wide_rows h (k:=k) (by omega);rw[mapsD hk]at r1 r2;have a:=xW h (k+1);have b:=xW h k;exact⟨by omega,fun r hr=> by have:=(r2 r hr).len; omega⟩
theorem vec_of{p:Int}{w:Nat}{v:L1}(hl:v.length=w)(h:∀y∈v,0≤y∧y < p):qP p w v:=⟨hl,fun j hj=> by
 rw[zd (by omega)]; exact h _ (wC (by omega))⟩
theorem xr{α:Type}{l m:List α}{k:Nat}{d:α}(h:k < l.length):(l++m).getD k d=l.getD k d:=by
 rw[gC,gB h,gC]
theorem getD_app_one{α:Type}{l:List α}{y d:α}:(l++[y]).getD l.length d=y:=by
 rw[gC,gJ (wE _),uD]; rfl
theorem wide_snoc{x:qe}(h:xZ x){d:Nat}{rows:aJ}(hd:d≤8)(hr:rows.length=d)(hR:Rows x.P (dc x (x.D.length - 1)) rows)(hl:x.D.length≤99):xZ ⟨x.P,x.D++[(d:Int)],x.M++[rows]⟩:=by
 have hml:=h.ml;have hdl:=h.dl;refine⟨h.p,by simp; omega,by simp; omega,fun e he=>?_,fun k hk=>?_⟩
 ·rcases wG.1 he with q|q
  ·exact h.dims e q
  ·rw[List.mem_singleton.1 q]; omega
 ·simp only[wM,List.length_singleton]at hk
  unfold xd;simp only;by_cases c:k < x.M.length
  ·have:=h.tab k c
   unfold xd at this;rw[xr (by omega),xr (by omega),xr c];exact this
  ·have hk':k=x.M.length:=by omega
   have e1:(x.D++[(d:Int)]).getD (k+1) 0=(d:Int):=by rw[show k+1=x.D.length by omega,getD_app_one]
   have e2:(x.D++[(d:Int)]).getD k 0=(dc x (x.D.length - 1):Int):=by
    rw[xr (by omega),show k=x.D.length - 1 by omega];exact dc_atw h (by omega)
   rw[e1,e2,hk',getD_app_one];refine⟨by omega,fun r hr'=>?_⟩;have v:=hR r hr';refine⟨by rw[v.len],fun y hy=>?_⟩;obtain⟨j,hj,rfl⟩:=wN hy;have:=v.rng j (by have:=v.len; omega)
   rwa[zd hj]at this
structure DrawnC (x:qe):Prop where
 w:xZ x
 l:x.D.length≤6
 d:∀e∈x.D,0≤e∧e≤8
theorem cyc_one{x:qe}(hx:zx x)(h:xZ x){n:Nat}(hn:n < x.D.length):∃K,F98 x (n:Int)=some K∧Red x.P (dc x n) K:=by
 have dA:1 < x.P:=by have:=h.p.range; omega
 have hd:=h.dim hn;have hml:=h.ml;have hxd:=hx.d;unfold F98;rw[F99_at hx.d hn,ob];rcases Nat.eq_zero_or_pos n with h0|h0
 ·subst h0
  have hdn:x.D.getD 0 0=(dc x 0:Int):=dc_atw h hn;rw[show((0:Nat):Int)=0 from rfl,F76_0 hx.d hn hdn (by omega),ob,hdn,ky h.p (by omega),ob];exact⟨_,rfl,zX dA _⟩
 ·obtain⟨k,rfl⟩:∃k,n=k+1:=⟨n - 1,by omega⟩
  have hk:k < x.M.length:=by omega
  have ht:=h.tab k hk;have hdk:=h.dim (show k < x.D.length by omega);have hr:Rows x.P (dc x k) (x.M.getD k []):=fun r hr=>(ht.2 r hr).vec;have hlen:=ht.1;have hdc:dc x (k+1)=(x.M.getD k []).length:=by unfold dc; omega
  have hw:=xW h k;obtain⟨K,k1, -,k3, -⟩:=kz h.p hr (by omega) (by omega);rw[F76_eq hx.d hn hk,ob,←hlen,k1,ob,hdc];exact⟨_,rfl,k3⟩
theorem drawOf_ok{s:qo}(hs:zB s){p:Int}(hp:IsP p){D:L1}(hl:1≤D.length∧D.length≤6)(hD:∀d∈D,0≤d∧d≤8):∃x s',F417 s p D=some ⟨x,s'⟩∧zB s'∧DrawnC x∧x.P=p∧x.D=D:=by
 have hpr:=hp.range;have d0:=hD _ (qz (show 0 < D.length by omega) 0);unfold F417;rw[show(0:Int)=((0:Nat):Int) from rfl,qk (show 0 < D.length by omega) 0,ob];obtain⟨t,g1,g2⟩:=forR_from (B:=F417_1_B p D) (D:=F417_1_D) (lo:=1) (hi:=(D.length:Int)) 1 D.length rfl rfl hl.1 (by omega) (fun n s=> 1≤n∧zB s.1∧xZ s.2∧s.2.P=p∧s.2.D=D.take n) (fun t=> zB t.1∧xZ t.2∧t.2.P=p∧t.2.D=D) (s:=(s,⟨p,[D.getD 0 0],[]⟩)) ⟨wE _,hs,⟨hp,by simp,by simp,fun e he=> by rw[List.mem_singleton.1 he]; omega,fun k hk=> absurd hk (by simp)⟩,rfl,by
   obtain⟨a,r,rfl⟩:∃a r,D=a::r:=by cases D with|nil=> simp at hl|cons a r=> exact⟨a,r,rfl⟩
   rfl⟩ (by
  rintro n ⟨q,x⟩ hn ⟨h1,h2,h3,h4,h5⟩;left;simp only at h2 h3 h4 h5;obtain⟨m,rfl⟩:∃m,n=m+1:=⟨n - 1,by omega⟩;have hxl:x.D.length=m+1:=by rw[h5,yG]; omega
  obtain⟨K,k1,k3⟩:=cyc_one (wide_small h3) h3 (n:=m) (by omega);rw[h4]at k3;have hKl:=zg k3;have hml:=h3.ml;have hdm:D.getD m 0=(dc x m:Int):=by
   rw[←dc_atw h3 (show m < x.D.length by omega),h5,gC,gC,List.getElem?_take_of_lt (by omega)]
  have hd8:=hD _ (qz (show m < D.length by omega) 0);have hdn:=hD _ (qz hn 0);obtain⟨d,hd⟩:∃d:Nat,D.getD (m+1) 0=(d:Int):=⟨(D.getD (m+1) 0).toNat,by omega⟩;have L:∃t,qY (F417_2_S p D K ((m+1:Nat):Int)) ((q,[]),0)=some t∧(zB t.1∧t.2.length=d∧Rows p (dc x m) t.2):=by
   refine qV (S:=F417_2_S p D K ((m+1:Nat):Int)) (fun s=>((d:Int) - s.2).toNat) (fun s=>∃i:Nat,i≤d∧s.2=(i:Int)∧zB s.1.1∧s.1.2.length=i∧Rows p (dc x m) s.1.2) _ ⟨0,by omega,rfl,h2,rfl,fun r hr=> nomatch hr⟩ ?_;rintro⟨⟨u,R⟩,i'⟩ ⟨i,p1,p2,p3,p4,p5⟩;simp only at p2 p3 p4 p5;subst p2;unfold F417_2_S;simp only;rw[qk hn 0,ob,hd];by_cases c:i < d
   ·left
    obtain⟨v,u',e1,f1,f2,f3⟩:=vector_ok p3 (show 1≤p by omega) (n:=K.length) (by omega);have hv:qP p K.length v:=vec_of f2 f3;have H:LinOK p (dc x m) v K:=kw hp rfl k3.ok (by omega) (by omega) hv;rw[if_pos (by omega),e1,ob,qn (by omega) (by omega),ob,show((m+1:Nat):Int) - 1=(m:Int) by omega,qk (show m < D.length by omega) 0,ob,hdm,F80_eq H rfl,ob,qJ (by simp only[List.length_singleton]; omega) (by simp only[List.length_singleton]; omega),ob,qn (by omega) (by omega),ob];refine⟨_,rfl,⟨i+1,by omega,rfl,f1,by simp[p4],fun r hr=>?_⟩,by simp only; omega⟩;rcases wG.1 hr with z|z
    ·exact p5 r z
    ·rw[List.mem_singleton.1 z]; exact ku H
   ·right
    rw[if_neg (by omega)];exact⟨_,rfl,p3,by simp only; omega,p5⟩
  obtain⟨⟨u,R⟩,l1,l2,l3,l4⟩:=L;simp only at l2 l3 l4;refine⟨(u,⟨x.P,x.D++[(d:Int)],x.M++[R]⟩),?_,by omega,l2,wide_snoc h3 (by omega) l3 (by rw[hxl,h4]; exact l4) (by omega),h4,?_⟩
  ·unfold F417_1_B
   simp only;rw[qn (by omega) (by omega),ob,show((m+1:Nat):Int) - 1=(m:Int) by omega,k1,ob,l1,ob,qk hn 0,ob,hd,qJ (by simp only[List.length_singleton]; omega) (by simp only[List.length_singleton]; omega),ob,qJ (by simp only[List.length_singleton]; omega) (by simp only[List.length_singleton]; omega),ob]
  ·simp only
   rw[h5,←hd];exact kn 0 hn) (by
  rintro⟨q,x⟩ ⟨h1,h2,h3,h4,h5⟩;exact⟨_,rfl,h2,h3,h4,by simp only at h5 ⊢; rw[h5,wR (by omega)]⟩)
 rw[g1,ob];obtain⟨f1,f2,f3,f4⟩:=g2;exact⟨t.2,t.1,rfl,f1,⟨f2,by rw[f4]; exact hl.2,by rw[f4]; exact hD⟩,f3,f4⟩
theorem draw_ok{s:qo}(hs:zB s):∃x s',F415 s=some ⟨x,s'⟩∧zB s'∧DrawnC x:=by
 unfold F415 F423;obtain⟨p,s1,e1,k1,k2⟩:=xM hs (l:=[2,2,3,3,5,7]) (by simp) (by simp);have hp:IsP p:=by
  simp only[vD,yL,or_false]at k2;unfold IsP; omega
 obtain⟨a,s2,e2,k3,k4,k5, -⟩:=zC k1 6;have k5':=k5 (by omega);obtain⟨b,s3,e3,k6,k7⟩:=xM k3 (l:=[0,1,2,2,3,a]) (by simp) (by simp);have hb:0≤b∧b≤5:=by
  simp only[vD,yL,or_false]at k7;omega
 rw[e1,ob,ob];simp only;rw[e2,ob];simp only;rw[e3,ob];simp only;rw[qn (by omega) (by omega),ob];obtain⟨N,hN⟩:∃N:Nat,1+b=(N:Int):=⟨(1+b).toNat,by omega⟩;rw[hN];have L:∃t,qY (F415_1_S ⟨p,s1⟩) (s3.code,s3.at_,s3.hash,[],(N:Int))=some t∧(∃ (q:qo) (o:L1),t=(q.code,q.at_,q.hash,o)∧zB q∧o.length=N∧∀d∈o,0≤d∧d≤8):=by
  refine qV (S:=F415_1_S ⟨p,s1⟩) (fun s=>(s.2.2.2.2).toNat) (fun s=>∃ (q:qo) (o:L1) (m:Nat),s=(q.code,q.at_,q.hash,o,(m:Int))∧zB q∧o.length+m=N∧∀d∈o,0≤d∧d≤8) _ ⟨s3,[],N,rfl,k6,by simp,fun y hy=> nomatch hy⟩ ?_;rintro _ ⟨q,o,m,rfl,h1,h2,h3⟩;unfold F415_1_S;simp only;by_cases cm:0 < (m:Int)
  ·left
   obtain⟨c,q1,f1,f2,f3,f4, -⟩:=zC h1 9;have f4':=f4 (by omega);obtain⟨y,q2,i1,i2,i3⟩:=xM f2 (l:=[0,1,1,2,2,3,4,c]) (by simp) (by simp);have hy:0≤y∧y≤8:=by
    simp only[vD,yL,or_false]at i3;omega
   rw[if_pos cm,f1,ob];simp only;rw[i1,ob,qJ (by simp; omega) (by simp; omega),ob,qn (by omega) (by omega),ob];refine⟨_,rfl,⟨q2,o++[y],m - 1,by simp only[wF,true_and]; omega,i2,by simp; omega,fun z hz=>?_⟩,by simp only; omega⟩;rcases wG.1 hz with hz|hz
   ·exact h3 z hz
   ·rw[List.mem_singleton.1 hz]; exact hy
  ·right
   rw[if_neg cm];exact⟨_,rfl,q,o,rfl,h1,by omega,h3⟩
 obtain⟨_,g1,q,o,rfl,h1,h2,h3⟩:=L;rw[g1,ob];simp only;obtain⟨x,s',e4,j1,j2, -⟩:=drawOf_ok h1 hp (D:=o) (by omega) h3;have e4':F417 ⟨q.code,q.at_,q.hash⟩ p o=some ⟨x,s'⟩:=e4;rw[e4',ob];exact⟨x,s',rfl,j1,j2⟩
theorem shp_small{s u:T3s}(h:Shp s u)(hu:SmallT u):SmallT s:=by
 refine⟨by rw[h.l]; exact hu.m,fun m hm=>?_⟩;obtain⟨k,hk,rfl⟩:=wN hm;have hk':k < u.length:=by rw[←h.l]; exact hk
 have a:=hu.r _ (qz hk' []);have e:s.getD k []=s[k]:=by simp[hk]
 have t:=h.t k hk';rw[e]at t;refine⟨by omega,fun r hr=>?_⟩;obtain⟨i,hi,rfl⟩:=wN hr;have hi':i < (u.getD k []).length:=by omega
 have b:=a.2 _ (qz hi' []);have e2:(s[k]).getD i []=(s[k])[i]:=by simp[hi]
 have r2:=h.r k hk' i hi';rw[e,e2]at r2;omega
theorem bad_loop2{p:Int}(hp:2≤p∧p≤7){u:T3s}(hu:SmallT u){k:Nat}(hk:k < u.length){q:qo}{ms:T3s}(hq:zB q)(hs:Shp ms u):∃t,qY (F421_2_S p (k:Int)) ((q,ms),0)=some t∧zB t.1∧Shp t.2 u:=by
 have ha:=hu.r _ (qz hk []);refine qV (S:=F421_2_S p (k:Int)) (fun s=>(((u.getD k []).length:Int) - s.2).toNat) (fun s=>∃i:Nat,i≤(u.getD k []).length∧s.2=(i:Int)∧zB s.1.1∧Shp s.1.2 u) _ ⟨0,by omega,rfl,hq,hs⟩ ?_;rintro⟨⟨q,ms⟩,i'⟩ ⟨i,p1,p2,p3,p4⟩;simp only at p2 p3 p4;subst p2;have hk':k < ms.length:=by rw[p4.l]; exact hk
 have ht:=p4.t k hk;unfold F421_2_S;simp only;rw[qk hk' [],ob];by_cases c:i < (u.getD k []).length
 ·left
  have hi:i < (ms.getD k []).length:=by omega
  have hr:=p4.r k hk i c;have hb:=ha.2 _ (qz c []);rw[if_pos (by omega),qk hi [],ob];by_cases c2:0 < ((ms.getD k []).getD i []).length
  ·obtain⟨j,q1,e1,k1,k2,k3, -⟩:=zC p3 (((ms.getD k []).getD i []).length:Int)
   have k3':=k3 (by omega);obtain⟨j',rfl⟩:∃j':Nat,j=(j':Int):=⟨j.toNat,by omega⟩;obtain⟨v,q2,e2,i1, -⟩:=xM k1 (l:=[1,p - 1,p]) (by simp) (by simp);have hj:j' < ((ms.getD k []).getD i []).length:=by omega
   rw[if_pos (by omega),e1,ob,qn (by omega) (by omega),ob];simp only;rw[e2,ob];simp only;rw[za hj,ob,za hi,ob,za hk',ob,qn (by omega) (by omega),ob];refine⟨_,rfl,⟨i+1,by omega,rfl,i1,?_⟩,by simp only; omega⟩;exact(put3_shp (show InT ms k i j' from ⟨hk',hi,hj⟩) v).trans p4
  ·rw[if_neg (by omega),qn (by omega) (by omega),ob]
   exact⟨_,rfl,⟨i+1,by omega,rfl,p3,p4⟩,by simp only; omega⟩
 ·right
  rw[if_neg (by omega)];exact⟨_,rfl,p3,p4⟩
theorem bad_loop1{p:Int}(hp:2≤p∧p≤7){u:T3s}(hu:SmallT u){q:qo}(hq:zB q):∃t,qY (F421_1_S p) ((q,u),0)=some t∧zB t.1∧Shp t.2 u:=by
 have hm:=hu.m;refine qV (S:=F421_1_S p) (fun s=>((u.length:Int) - s.2).toNat) (fun s=>∃i:Nat,i≤u.length∧s.2=(i:Int)∧zB s.1.1∧Shp s.1.2 u) _ ⟨0,by omega,rfl,hq,.refl _⟩ ?_;rintro⟨⟨q,ms⟩,i'⟩ ⟨i,p1,p2,p3,p4⟩;simp only at p2 p3 p4;subst p2;have hl:=p4.l;unfold F421_1_S;simp only;by_cases c:i < u.length
 ·left
  obtain⟨t,g1,g2,g3⟩:=bad_loop2 hp hu c p3 p4;rw[if_pos (by omega),g1,ob,qn (by omega) (by omega),ob];exact⟨_,rfl,⟨i+1,by omega,rfl,g2,g3⟩,by simp only; omega⟩
 ·right
  rw[if_neg (by omega)];exact⟨_,rfl,p3,p4⟩
structure LooseC (x:qe):Prop where
 s:zx x
 l:1≤x.D.length∧x.D.length≤7
theorem bad_ok{s:qo}(hs:zB s){x:qe}(h:DrawnC x):∃y s',F421 s x=some ⟨y,s'⟩∧zB s'∧LooseC y:=by
 have hp:=h.w.p.range;have hS:=wide_small h.w;have hdl:=h.w.dl;have hl:=h.l;obtain⟨k,s1,e1,k1,k2,k3, -⟩:=zC hs 40;unfold F421;rw[e1,ob];simp only;by_cases c0:k=0
 ·obtain⟨v,s2,e2,i1, -⟩:=xM k1 (l:=[0,4,11]) (by simp) (by simp)
  rw[if_pos c0,e2,ob];exact⟨_,_,rfl,i1,⟨hS.d,hS.m,hS.r⟩,hdl.1,by simp only; omega⟩
 rw[if_neg c0];by_cases c1:k=1
 ·obtain⟨i,s2,e2,i1,i2,i3, -⟩:=zC k1 (x.D.length:Int)
  have i3':=i3 (by omega);obtain⟨i',rfl⟩:∃i':Nat,i=(i':Int):=⟨i.toNat,by omega⟩;obtain⟨v,s3,e3,j1, -⟩:=xM i1 (l:=[(-1),9,1]) (by simp) (by simp);rw[if_pos c1,F94_eq hS.d,ob,e2,ob];simp only;rw[e3,ob];simp only;rw[za (by omega),ob];exact⟨_,_,rfl,j1,⟨by simp only[yD]; exact hS.d,hS.m,hS.r⟩,by simp only[yD]; omega⟩
 rw[if_neg c1];by_cases c2:k=2
 ·rw[if_pos c2,F94_eq hS.d,ob,qJ (by simp only[List.length_singleton]; omega) (by simp only[List.length_singleton]; omega),ob]
  exact⟨_,_,rfl,k1,⟨by simp only[wM,List.length_singleton]; omega,hS.m,hS.r⟩,by simp only[wM,List.length_singleton]; omega⟩
 rw[if_neg c2];by_cases c3:k=3
 ·obtain⟨t,g1,g2,g3⟩:=bad_loop1 hp (u:=x.M) ⟨hS.m,hS.r⟩ k1
  rw[if_pos c3,F55_eq hS,ob,g1,ob];have hT:=shp_small g3 ⟨hS.m,hS.r⟩;exact⟨_,_,rfl,g2,⟨hS.d,hT.m,hT.r⟩,hdl.1,by simp only; omega⟩
 rw[if_neg c3];exact⟨_,_,rfl,k1,hS,hdl.1,by omega⟩
theorem spoil_ok{s:qo}(hs:zB s):∃x s',F406 s=some ⟨x,s'⟩∧zB s'∧LooseC x:=by
 obtain⟨x,s1,e1,k1,k2⟩:=draw_ok hs;obtain⟨y,s2,e2,i1,i2⟩:=bad_ok k1 k2;unfold F406;rw[e1,ob];simp only;rw[e2,ob];exact⟨_,_,rfl,i1,i2⟩
structure CodeOK (code:List U8):Prop where
 l:code.length≤1099511627776
 b:∀b∈code,0≤b.val∧b.val≤255
theorem one_ok{code:List U8}(h:CodeOK code):∃x s s',F405 code=some s∧F406 s=some ⟨x,s'⟩∧zB s'∧LooseC x:=by
 obtain⟨s,e1,k1⟩:=from_ok h.l h.b;obtain⟨x,s',e2,k2,k3⟩:=spoil_ok k1;exact⟨x,s,s',e1,e2,k2,k3⟩
noncomputable def zN(x:qc)(r:Int)(n:Nat)(q:Int):Int:=(((F184 x r (n:Int) q).getD []).length:Int)
structure NearL (x:qc) (r:Int) (n:Nat) (q:Int) (N:aJ):Prop where
 e:F184 x r (n:Int) q=some N
 s:F280 x r (n:Int) q=some N
 red:Red x.C.P (dm x n) N
 sp:∀v,Sp x.C.P (dm x n) N v↔NearP x r n q v
 len:zN x r n q=N.length
theorem zu{x:qc}(hs:qG x)(h:qx x){n:Nat}(hn:n < x.L.length){r q:Int}(hr: -100≤r∧r≤100)(hq: -100≤q∧q≤100):∃N,NearL x r n q N:=by
 obtain⟨N,n1,n2,n3⟩:=zR hs h hn hr hq;exact⟨N,n1,n2,n3,near_sp hs h hn hr hq n1,by unfold zN; rw[n1]; rfl⟩
theorem zN_top{x:qc}(hs:qG x)(h:qx x){r q:Int}(hr: -100≤r∧r≤100)(hq: -100≤q∧q≤100):zN x r x.L.length q=0:=by
 unfold zN; rw[near_top hs h hr hq]; rfl
theorem red_same{p:Int}{w:Nat}(hp:1 < p){A B:aJ}(hA:Red p w A)(hB:Red p w B)(h:∀v,Sp p w A v↔Sp p w B v):A=B:=
 qT.same hp (qT.self hA) ⟨hB,fun v=>(h v).symm⟩
theorem zN_same{x:qc}(hs:qG x)(h:qx x){n:Nat}(hn:n < x.L.length){r q r' q':Int}(hr: -100≤r∧r≤100)(hq: -100≤q∧q≤100)(hr': -100≤r'∧r'≤100)(hq': -100≤q'∧q'≤100)
  (h1:∀v,NearP x r n q v↔NearP x r' n q' v):zN x r n q=zN x r' n q':=by
 have dA:1 < x.C.P:=by have:=h.vc.p.range; omega
 obtain⟨N,a⟩:=zu hs h hn hr hq;obtain⟨N',b⟩:=zu hs h hn hr' hq';rw[a.len,b.len,red_same dA a.red b.red fun v=>(a.sp v).trans ((h1 v).trans (b.sp v).symm)]
theorem near_diff{x:qc}(h:qx x){n:Nat}(hn:n+1 < x.L.length){r s q t r':Int}(hrs:q - s=t)(hle:t≤q - r){v:L1}:NearP x s (n+1) q v↔NearP x r (n+1) q v∧NearP x r' n t (df x n v):=by
 have aK:0 < x.C.P:=by have:=h.vc.p.range; omega
 constructor
 ·rintro⟨v1,v2,v3⟩
  refine⟨⟨v1,v2,fun n0 j hj hlt=> v3 n0 j hj (by omega)⟩,df_near h hn r' v1 fun j hj hlt=>?_⟩;have:=v3 (by omega) j (by rw[vC]; exact hj) (by rw[vC]; omega);exact this
 ·rintro⟨⟨v1,v2,v3⟩,w1,w2,w3⟩
  refine⟨v1,v2,fun n0 j hj hlt=>?_⟩;rw[vC]at hj hlt;have a:=w2 j hj (by omega);have b:=df_at h hn v1 hj;rw[a]at b;exact b.symm
theorem low_map{x:qc}{n:Nat}{N:aJ}:low x n N=N.map (df x n):=rfl
theorem bot_count{x:qc}(hs:qG x)(h:qx x){n:Nat}(hn:n < x.L.length){r q:Int}(hr: -30≤r∧r≤30)(hq: -30≤q∧q≤30):
  ∃B,F185 x r (n:Int) q=some B∧F279 x r (n:Int) q=some B∧Red x.C.P (dm x n) B∧(B.length:Int)=zN x (r - 1) n (q - 1)+zN x (r - 1) (n+1) (q+r - 1) - zN x r (n+1) (q+r - 1):=by
 have dA:1 < x.C.P:=by have:=h.vc.p.range; omega
 obtain⟨B,A,b1,b2,b3,b4,b5,b6,b7⟩:=bottom_full hs h hn (r:=r) (q:=q) (by omega) (by omega);refine⟨B,b1,b2,b3,?_⟩;obtain⟨A',a⟩:=zu hs h hn (r:=r - 1) (q:=q - 1) (by omega) (by omega);have ea:A=A':=by have:=a.e; rw[b4]at this; exact wA this
 subst ea;by_cases c:n+1 < x.L.length
 ·obtain⟨D,d1,d2,d3⟩:=b6 c
  obtain⟨D',d⟩:=zu hs h c (r:=r - 1) (q:=q+r - 1) (by omega) (by omega);have ed:D=D':=by have:=d.e; rw[d1]at this; exact wA this
  subst ed;obtain⟨K,k⟩:=zu hs h c (r:=r) (q:=q+r - 1) (by omega) (by omega);rw[low_map]at d3;have key:=rel_count dA h.vc.p.inv (df_lin h c) a.red d.red k.red (fun v=> by
   rw[k.sp,d.sp,a.sp];exact near_diff h c (by omega) (by omega)) d3
  rw[a.len,d.len,k.len];omega
 ·have hl:n+1=x.L.length:=by omega
  have e:=qT.same dA (b7 c) (qT.self b5);rw[hl,zN_top hs h (by omega) (by omega),zN_top hs h (by omega) (by omega),a.len,e];omega
noncomputable def pgN(x:qc)(r:Int)(n:Nat)(q:Int):Int:=zN x r n q - zN x (r - 1) n (q - 1) - zN x (r - 1) (n+1) (q+r - 1)+zN x r (n+1) (q+r - 1)
noncomputable def pgR(x:qc)(r:Int)(n:Nat)(q:Int):Int:=zN x r n q - zN x (r+1) n q - zN x (r - 1) n (q - 1)+zN x r n (q - 1)
theorem page_num{x:qc}(hs:qG x)(h:qx x){n:Nat}(hn:n < x.L.length){r q:Int}(hr: -30≤r∧r≤30)(hq: -30≤q∧q≤30):F169 x r (n:Int) q=some (pgN x r n q):=by
 have hd:=zA h hn;obtain⟨N,a⟩:=zu hs h hn (r:=r) (q:=q) (by omega) (by omega);obtain⟨B,b1,b2,b3,b4⟩:=bot_count hs h hn hr hq;have l1:=zg a.red;have l2:=zg b3;unfold F169;rw[a.e,ob,b1,ob,qn (by omega) (by omega),ob];refine congrArg some ?_;unfold pgN;rw[a.len];omega
theorem page_next{x:qc}{r:Int}{n:Nat}{q:Int}:pgN x (r+1) n q=pgN x r n q - pgR x r n q - pgR x r (n+1) (q+r):=by
 unfold pgN pgR;rw[show r+1 - 1=r by omega,show q+(r+1) - 1=q+r by omega];omega
theorem page_dim{x:qc}(hs:qG x)(h:qx x){m:Nat}(hm:m+1 < x.L.length){r q:Int}(hr:0≤r∧r≤8)(hq:0≤q∧q≤5)(hrq:r≤q):∃N B E,F280 x r ((m+1:Nat):Int) q=some N∧F279 x r (m:Int) (q - r)=some B∧F131 x.C.P (B++low x m N)=some E∧
  Red x.C.P (dm x (m+1)) N∧Red x.C.P (dm x m) B∧qT x.C.P (dm x m) (B++low x m N) E∧N.length≤8∧B.length≤8∧E.length≤8∧(low x m N).length=N.length∧(E.length:Int) - B.length=pgR x r (m+1) q:=by
 have hp:=h.vc.p;have dA:1 < x.C.P:=by have:=hp.range; omega
 have aK:0 < x.C.P:=by omega
 have hsl:=hs.l;have hd:=zA h hm;have rQ:=zA h (n:=m) (by omega);have hm0:m < x.L.length:=by omega
 obtain⟨N,a⟩:=zu hs h hm (r:=r) (q:=q) (by omega) (by omega);obtain⟨K,k⟩:=zu hs h hm (r:=r+1) (q:=q) (by omega) (by omega);obtain⟨B,b1,b2,b3,b4⟩:=bot_count hs h hm0 (r:=r) (q:=q - r) (by omega) (by omega);obtain⟨B',A,c1,c2,c3,c4,c5,c6, -⟩:=bottom_full hs h hm0 (r:=r) (q:=q - r) (by omega) (by omega);have eb:B=B':=by rw[b1]at c1; exact wA c1
 subst eb;obtain⟨D,d1,d2,d3⟩:=c6 hm;obtain⟨A',a'⟩:=zu hs h hm0 (r:=r - 1) (q:=q - r - 1) (by omega) (by omega);have ea:A=A':=by have:=a'.e; rw[c4]at this; exact wA this
 subst ea;obtain⟨D',d⟩:=zu hs h hm (r:=r - 1) (q:=q - r+r - 1) (by omega) (by omega);have ed:D=D':=by have:=d.e; rw[d1]at this; exact wA this
 subst ed;have hNl:=zg a.red;have hBl:=zg b3;have hlow:=low_ok h hm a.red;have hR:Rows x.C.P (dm x m) (B++low x m N):=fun v hv=>(wG.1 hv).elim (b3.ok v) (hlow v);have hR2:Rows x.C.P (dm x m) (A++low x m N):=fun v hv=>(wG.1 hv).elim (c5.ok v) (hlow v);have hll:(low x m N).length=N.length:=by simp[low]
 obtain⟨E,e1,e2⟩:=F131_ech hp hR (by omega) (by rw[wM,hll]; omega);have hDN:∀v,Sp x.C.P (dm x (m+1)) D v→Sp x.C.P (dm x (m+1)) N v:=fun v hv=> by
  obtain⟨v1,v2,v3⟩:=(d.sp v).1 hv;exact(a.sp v).2 ⟨v1,fun i hi hlt=> v2 i hi (by omega),fun n0 j hj hlt=> v3 n0 j hj (by omega)⟩
 have hE:qT x.C.P (dm x m) (A++N.map (df x m)) E:=⟨e2.red,fun v=>(e2.sp v).trans ⟨fun hv=> hv.into aK hR2 fun u hu=>?_,fun hv=> hv.into aK hR fun u hu=>?_⟩⟩
 ·have key:=rel_count dA hp.inv (df_lin h hm) a'.red a.red k.red (fun v=> by
   rw[k.sp,a.sp,a'.sp];exact near_diff h hm (by omega) (by omega)) hE
  have hEl:=zg e2.red;have hN0:N.length≤8:=by omega
  refine⟨N,B,E,a.s,b2,e1,a.red,b3,e2,hN0,by omega,by omega,hll,?_⟩;unfold pgR;rw[show q - r+r - 1=q - 1 by omega]at b4;rw[a.len,k.len];have l':=a'.len;omega
 ·rcases wG.1 hu with q1|q1
  ·refine((d3.sp u).1 (.mem aK b3.ok q1)).into aK hR2 fun w hw=>?_
   rcases wG.1 hw with q2|q2
   ·exact .mem aK hR2 (wT _ q2)
   ·obtain⟨z,hz,rfl⟩:=wL.1 q2
    have hz':Sp x.C.P (dm x (m+1)) N z:=hDN z (.mem aK d.red.ok hz);exact((df_lin h hm).sp aK a.red.ok hz').mono fun w hw=> wS _ hw
  ·exact .mem aK hR2 (wS _ q1)
 ·rcases wG.1 hu with q1|q1
  ·have:Sp x.C.P (dm x m) B u:=(d3.sp u).2 (.mem aK (fun v hv=>(wG.1 hv).elim (c5.ok v) (low_ok h hm d.red v)) (wT _ q1))
   exact this.mono fun w hw=> wT _ hw
  ·exact .mem aK hR (wS _ q1)
theorem page_pos{x:qc}(hs:qG x)(h:qx x){m:Nat}(hm:m+1 < x.L.length){r q:Int}(hr:0≤r∧r≤8)(hq:0≤q∧q≤5)(hrq:r≤q):0≤pgR x r (m+1) q:=by
 have hp:=h.vc.p;have aK:0 < x.C.P:=by have:=hp.range; omega
 have rQ:=zA h (n:=m) (by omega);obtain⟨N,B,E, -, -, -,nR,bR,eE, -,l2,l3, -,e⟩:=page_dim hs h hm hr hq hrq;have L:=rest_lin aK bR.ok fun t ht=>(bR.one t ht).1;have hR:Rows x.C.P (dm x m) (B++low x m N):=fun v hv=>(wG.1 hv).elim (bR.ok v) (low_ok h hm nR v);have hBE:∀b∈B,Sp x.C.P (dm x m) E b:=fun b hb=>(eE.sp b).2 (.mem aK hR (wT _ hb));have hM:Rows x.C.P (dm x m) (E.map (rest x.C.P B)):=fun v hv=> by
  obtain⟨u,hu,rfl⟩:=wL.1 hv;exact jY aK bR.ok (eE.red.ok u hu)
 obtain⟨Z, -,z2⟩:=F131_ech hp hM (by omega) (by rw[vM]; omega);have:=hole_count hp bR eE.red hBE z2;omega
theorem pgR_low{x:qc}(hs:qG x)(h:qx x){n:Nat}(hn:n < x.L.length){r q:Int}(hr: -20≤r∧r≤20)(hq: -20≤q∧q≤20)(h0:n=0∨q < r):pgR x r n q=0:=by
 have hlv:∀j,j < dm x (n - 1)→n≠0→0≤lv x (n - 1) j:=fun j hj n0=>(lv_rng h (n:=n - 1) (by omega) hj).1;have e1:zN x r n q=zN x (r+1) n q:=zN_same hs h hn (by omega) (by omega) (by omega) (by omega) fun v=> by
  constructor
  ·rintro⟨v1,v2,v3⟩
   exact⟨v1,v2,fun n0 j hj hlt=> v3 n0 j hj (by have:=hlv j hj n0; omega)⟩
  ·rintro⟨v1,v2,v3⟩
   exact⟨v1,v2,fun n0 j hj hlt=> v3 n0 j hj (by have:=hlv j hj n0; omega)⟩
 have e2:zN x (r - 1) n (q - 1)=zN x r n (q - 1):=zN_same hs h hn (by omega) (by omega) (by omega) (by omega) fun v=> by
  constructor
  ·rintro⟨v1,v2,v3⟩
   exact⟨v1,v2,fun n0 j hj hlt=> v3 n0 j hj (by have:=hlv j hj n0; omega)⟩
  ·rintro⟨v1,v2,v3⟩
   exact⟨v1,v2,fun n0 j hj hlt=> v3 n0 j hj (by have:=hlv j hj n0; omega)⟩
 unfold pgR; omega
theorem pgR_top{x:qc}(hs:qG x)(h:qx x){r q:Int}(hr: -20≤r∧r≤20)(hq: -20≤q∧q≤20):pgR x r x.L.length q=0:=by
 unfold pgR;rw[zN_top hs h (by omega) (by omega),zN_top hs h (by omega) (by omega),zN_top hs h (by omega) (by omega),zN_top hs h (by omega) (by omega)];rfl
theorem pgR_high{x:qc}(hs:qG x)(h:qx x){n:Nat}(hn:n < x.L.length){r q:Int}(hr: -20≤r∧r≤20)(hq: -20≤q∧q≤20)(h5:5 < q):pgR x r n q=0:=by
 have hlv:∀i,i < dm x n→lv x n i≤5:=fun i hi=>(lv_rng h hn hi).2;have e1:zN x r n q=zN x (r - 1) n (q - 1):=zN_same hs h hn (by omega) (by omega) (by omega) (by omega) fun v=> by
  constructor
  ·rintro⟨v1,v2,v3⟩
   exact⟨v1,fun i hi hlt=> absurd (hlv i hi) (by omega),fun n0 j hj hlt=> v3 n0 j hj (by omega)⟩
  ·rintro⟨v1,v2,v3⟩
   exact⟨v1,fun i hi hlt=> absurd (hlv i hi) (by omega),fun n0 j hj hlt=> v3 n0 j hj (by omega)⟩
 have e2:zN x (r+1) n q=zN x r n (q - 1):=zN_same hs h hn (by omega) (by omega) (by omega) (by omega) fun v=> by
  constructor
  ·rintro⟨v1,v2,v3⟩
   exact⟨v1,fun i hi hlt=> absurd (hlv i hi) (by omega),fun n0 j hj hlt=> v3 n0 j hj (by omega)⟩
  ·rintro⟨v1,v2,v3⟩
   exact⟨v1,fun i hi hlt=> absurd (hlv i hi) (by omega),fun n0 j hj hlt=> v3 n0 j hj (by omega)⟩
 unfold pgR; omega
theorem tele6(S:Int→Int):∀L:Nat,sumI (fun q=> S (q:Int) - S ((q:Int) - 1)) L=S ((L:Int) - 1) - S (-1)
 |0=> by simp[sumI]
 |L+1=> by
  simp only[sumI];rw[tele6 S L,show((L+1:Nat):Int) - 1=(L:Int) by omega];omega
theorem lim_total{x:qc}(hs:qG x)(h:qx x){n:Nat}(hn:n < x.L.length):∃K B,F98 x.C (n:Int)=some K∧F100 x.C (n:Int)=some K∧F251 x.C (n:Int)=some B∧F186 x.C (n:Int)=some B∧sumI (fun q=> limN x n q) 6=(K.length:Int) - B.length:=by
 have dA:1 < x.C.P:=by have:=h.vc.p.range; omega
 have aK:0 < x.C.P:=by omega
 have hll:=h.ll;obtain⟨K,k1,k2,k3⟩:=cyc_full hs h hn;obtain⟨K',k4,k5, -⟩:=cycles_same hs.c h.vc (n:=n) (by omega);have ek:K=K':=by rw[k1]at k4; exact wA k4
 subst ek;obtain⟨B,b1,b2,b3,b4,b5⟩:=bounds_full hs.c h.vc (n:=n) (by omega);have hdd:dc x.C n=dm x n:=rfl;rw[hdd]at b3 b4;refine⟨K,B,k1,k5,b1,b2,?_⟩;have key:sumI (fun q=> limN x n q) 6=held x n 5 - held x n (-1):=tele6 (fun q=> held x n q) 6;obtain⟨Z,B5,W,z1,z2,z3, -, -, -,z4⟩:=xP hs h hn (q:=5) (by omega);obtain⟨Z',B6,W',y1,y2,y3, -, -, -,y4⟩:=xP hs h hn (q:= -1) (by omega);have e5:B5=B:=by rw[b2]at z2; exact(wA z2).symm
 have e6:B6=B:=by rw[b2]at y2; exact(wA y2).symm
 rw[e5]at z3; rw[e6]at y3;rw[key,z4,y4]
 -- all cycles
 obtain⟨N,a⟩:=zu hs h hn (r:=6) (q:=5) (by omega) (by omega);have eN:Z=N:=by have:=a.e; rw[z1]at this; exact wA this
 subst eN;have hZK:∀v,Sp x.C.P (dm x n) Z v↔Sp x.C.P (dm x n) K v:=fun v=>(a.sp v).trans ((⟨fun q=>⟨q.1,fun n0 j hj=> q.2.2 n0 j hj (by have:=(lv_rng h (n:=n - 1) (by omega) hj).1; omega)⟩,fun q=>⟨q.1,fun i hi hlt=> absurd (lv_rng h hn hi).2 (by omega),fun n0 j hj _=> q.2 n0 j hj⟩⟩:_↔_).trans (k3 v).symm);have hBK:∀b∈B,Sp x.C.P (dm x n) K b:=fun b hb=> by
  by_cases c:n+1 < x.C.D.length
  ·have c':n+1 < x.L.length:=by omega
   have hsp:=((b4 c).sp b).1 (.mem aK b3.ok hb);have hrows:Rows x.C.P (dm x n) (x.C.M.getD n []):=(mt_ok h c').2.2;refine hsp.into aK (k2.ok) fun r hr=>?_;obtain⟨i,hi,rfl⟩:=xN.1 hr;have hi':i < dm x (n+1):=by have:=(mt_ok h c').2.1; show i < dm x (n+1); rw[←this]; exact hi
   have hu:=df_unit h c' hi';have huv:=unitv_ok dA hi';have er:qE (x.C.M.getD n []) i=df x n (jN (dm x (n+1)) i):=hu.symm;rw[er];have hok:=df_ok h c' huv;refine(k3 _).2 ⟨hok,fun n0 j hj=>?_⟩;obtain⟨m,rfl⟩:∃m,n=m+1:=⟨n - 1,by omega⟩;have h1:=df_at h (n:=m) (by omega) hok (j:=j) (by rw[vC]at hj; exact hj);rw[df_df h c' huv,zn]at h1;exact h1.symm
  ·rw[b5 c]at hb; exact absurd hb (by simp)
 have eW:W=K:=red_same dA z3.red k2 fun v=>(z3.sp v).trans ⟨fun q=> q.into aK k2.ok fun r hr=>(wG.1 hr).elim (fun q1=>(hZK r).1 (.mem aK a.red.ok q1)) (hBK r),fun q=>(((hZK v).2 q)).mono fun r hr=> wT _ hr⟩
 -- none
 obtain⟨M,b⟩:=zu hs h hn (r:=6) (q:= -1) (by omega) (by omega);have eM:Z'=M:=by have:=b.e; rw[y1]at this; exact wA this
 subst eM;have hz:∀v,Sp x.C.P (dm x n) Z' v→v=zv (dm x n):=fun v hv=> by
  have q:=(b.sp v).1 hv;exact nth_ext (by rw[q.1.len]; simp[zv]) fun j hj=> by
   rw[q.1.len]at hj;rw[q.2.1 j hj (by have:=(lv_rng h hn hj).1; omega),zn]
 have eW':W'=B:=red_same dA y3.red b3 fun v=>(y3.sp v).trans ⟨fun q=> q.into aK b3.ok fun r hr=>(wG.1 hr).elim (fun q1=> by rw[hz r (.mem aK b.red.ok q1)]; exact .zero) (fun q1=> .mem aK b3.ok q1),fun q=> q.mono fun r hr=> wS _ hr⟩;rw[eW,eW']
theorem pgR_pos{x:qc}(hs:qG x)(h:qx x){n:Nat}(hn:n≤x.L.length){r q:Int}(hr:0≤r∧r≤8)(hq:0≤q∧q≤20):0≤pgR x r n q:=by
 by_cases c:n < x.L.length
 ·by_cases c1:n=0∨q < r
  ·rw[pgR_low hs h c (by omega) (by omega) c1]; omega
  ·by_cases c2:5 < q
   ·rw[pgR_high hs h c (by omega) (by omega) c2]; omega
   ·obtain⟨m,rfl⟩:∃m,n=m+1:=⟨n - 1,by omega⟩
    exact page_pos hs h c hr ⟨hq.1,by omega⟩ (by omega)
 ·have:n=x.L.length:=by omega
  rw[this,pgR_top hs h (by omega) (by omega)]; omega
theorem pg_mono{x:qc}(hs:qG x)(h:qx x){n:Nat}(hn:n < x.L.length){r q:Int}(hr:0≤r∧r≤8)(hq:0≤q∧q≤5):pgN x (r+1) n q≤pgN x r n q:=by
 have a:=pgR_pos hs h (n:=n) (by omega) hr (q:=q) (by omega);have b:=pgR_pos hs h (n:=n+1) (by omega) hr (q:=q+r) (by omega);rw[page_next]; omega
theorem pg_six{x:qc}(hs:qG x)(h:qx x){n:Nat}(hn:n < x.L.length){r q:Int}(hr:6≤r∧r≤8)(hq:0≤q∧q≤5):pgN x (r+1) n q=pgN x r n q:=by
 have a:=pgR_low hs h hn (r:=r) (q:=q) (by omega) (by omega) (.inr (by omega));have b:pgR x r (n+1) (q+r)=0:=by
  by_cases c:n+1 < x.L.length
  ·exact pgR_high hs h c (by omega) (by omega) (by omega)
  ·have:n+1=x.L.length:=by omega
   rw[this]; exact pgR_top hs h (by omega) (by omega)
 rw[page_next,a,b]; omega
theorem pg_down{x:qc}(hs:qG x)(h:qx x){n:Nat}(hn:n < x.L.length){q:Int}(hq:0≤q∧q≤5){r:Int}(hr:0≤r):∀ {k:Nat},r+k≤9→pgN x (r+k) n q≤pgN x r n q
 |0,_=> by rw[show r+((0:Nat):Int)=r by omega]; exact vV _
 |k+1,hk=> by
  have a:=pg_mono hs h hn (r:=r+k) (q:=q) (by omega) hq;have b:=pg_down hs h hn hq hr (k:=k) (by omega);rw[show r+((k+1:Nat):Int)=r+(k:Int)+1 by omega];omega
theorem numN_pg{x:qc}(hs:qG x)(h:qx x){n q:Nat}(hn:n < x.L.length)(hq:q < 6){r:Int}(hr:0≤r∧r≤9):numN x r n q=pgN x r n (q:Int):=by
 unfold numN;rw[page_num hs h hn (by omega) (by omega)]; rfl
theorem last_next{x:qc}(hs:qG x)(h:qx x){t:Int}(ht:0≤t∧t≤6)(hA:AllSame x t){n q:Nat}(hn:n < x.L.length)(hq:q < 6):numN x (t+1) n q=numN x t n q:=by
 have a:=hA n hn q hq;rw[←six hs h hn hq]at a;rw[numN_pg hs h hn hq (by omega),numN_pg hs h hn hq (by omega)]at a ⊢;by_cases c:t=6
 ·rw[c]; exact pg_six hs h hn (by omega) (by omega)
 ·have u:=pg_mono hs h hn (r:=t) (q:=(q:Int)) (by omega) (by omega)
  have w:=pg_down hs h hn (q:=(q:Int)) (by omega) (r:=t+1) (by omega) (k:=(5 - t).toNat) (by omega);rw[show t+1+(((5 - t).toNat:Nat):Int)=6 by omega]at w;omega
theorem zN_full{x:qc}(hs:qG x)(h:qx x){n:Nat}(hn:n < x.L.length){r q:Int}(hr: -50≤r∧r≤50)(hq: -50≤q∧q≤50)(h1:∀i,i < dm x n→lv x n i≤q)(h2:n≠0→∀j,j < dm x (n - 1)→lv x (n - 1) j≤q - r):zN x r n q=(dm x n:Int):=by
 have dA:1 < x.C.P:=by have:=h.vc.p.range; omega
 obtain⟨N,a⟩:=zu hs h hn (r:=r) (q:=q) (by omega) (by omega);have e:N=zy (dm x n):=red_same dA a.red (zX dA _) fun v=>(a.sp v).trans ⟨fun z=> units_sp dA z.1,fun z=>⟨z.ok (by omega) (zX dA _).ok,fun i hi hlt=> absurd (h1 i hi) (by omega),fun n0 j hj hlt=> absurd (h2 n0 j hj) (by omega)⟩⟩;rw[a.len,e,jO]
theorem zN_void{x:qc}(hs:qG x)(h:qx x){n:Nat}(hn:n≤x.L.length){r q:Int}(hr: -50≤r∧r≤50)(hq: -50≤q∧q≤50)(h1:n < x.L.length→∀i,i < dm x n→q < lv x n i):zN x r n q=0:=by
 by_cases c:n < x.L.length
 ·have dA:1 < x.C.P:=by have:=h.vc.p.range; omega
  obtain⟨N,a⟩:=zu hs h c (r:=r) (q:=q) (by omega) (by omega);have nil:Red x.C.P (dm x n) []:=(qT.nil _ _).red;have hz0:∀j,nth (zv (dm x n)) j=0:=fun j=> zn _ _;have e:N=[]:=red_same dA a.red nil fun v=>(a.sp v).trans ⟨fun z=> by
    have hz:v=zv (dm x n):=nth_ext (by rw[z.1.len]; simp[zv]) fun j hj=> by
     rw[z.1.len]at hj;rw[z.2.1 j hj (h1 c j hj),zn]
    rw[hz]; exact .zero,fun z=> by
    have hz:v=zv (dm x n):=Sp.zeros (R:=[]) (by omega) (fun r hr=> nomatch hr) z;refine⟨z.ok (by omega) nil.ok,fun i _ _=> by rw[hz,zn],fun n0 j hj _=>?_⟩;rw[hz];have:dot (nth (zv (dm x n))) (mt x n) (dm x n) j=0:=dot_zero fun i _=> zn _ _;rw[this]; exact .refl _ _⟩
  rw[a.len,e]; rfl
 ·have:n=x.L.length:=by omega
  rw[this,zN_top hs h (by omega) (by omega)]
def zU(c:qe)(L:Int):qc:=⟨c,flatL L c.D⟩
theorem flat_len{c:qe}{L:Int}:(zU c L).L.length=c.D.length:=by simp[zU,flatL]
theorem flat_row{c:qe}{L:Int}{n:Nat}(hn:n < c.D.length):(zU c L).L.getD n []=List.replicate (c.D.getD n 0).toNat L:=by
 unfold zU flatL;simp only;rw[gC,gF,gE hn,gC,gE hn]; rfl
theorem flat_lv{c:qe}{L:Int}{n i:Nat}(hn:n < c.D.length)(hi:i < (c.D.getD n 0).toNat):lv (zU c L) n i=L:=by
 unfold lv;rw[flat_row hn,gC,List.getElem?_replicate,if_pos hi]; rfl
theorem flat_small{c:qe}(hx:zx c)(V:zp c){L:Int}:qG (zU c L):=by
 have hd:=hx.d;refine⟨hx,by rw[flat_len]; exact hd,fun q hq=>?_⟩;obtain⟨n,hn,rfl⟩:=wN hq;have hn':n < c.D.length:=by rw[flat_len]at hn; exact hn
 have e:=flat_row (L:=L) hn';have e2:(zU c L).L.getD n []=(zU c L).L[n]:=by simp[hn]
 rw[←e2,e,yB];have:=V.dims _ (qz hn' 0);omega
theorem flat_valid{c:qe}(V:zp c){L:Int}(hL:0≤L∧L≤5):qx (zU c L):=by
 refine⟨⟨flat_len,fun n hn=>?_⟩,V,fun k i j hin=>?_⟩
 ·rw[flat_len]at hn
  have:=V.dims _ (qz hn 0);rw[flat_row hn,yB];refine⟨by show(((c.D.getD n 0).toNat:Nat):Int)=c.D.getD n 0; omega,fun q hq=>?_⟩;rw[(List.mem_replicate.1 hq).2]; exact hL
 ·right
  have hT:=V.tab k hin.1;have hml:=V.ml;have hk:k+1 < c.D.length:=by have:=hin.1; show k+1 < c.D.length; have e:c.M.length+1=c.D.length:=hml; have:k < c.M.length:=hin.1; omega
  have hi:i < (c.D.getD (k+1) 0).toNat:=by have a:=hT.1; have b:i < (c.M.getD k []).length:=hin.2.1; omega
  have hj:j < (c.D.getD k 0).toNat:=by
   have a:=(hT.2 _ (qz (show i < (c.M.getD k []).length from hin.2.1) [])).1;have b:j < ((c.M.getD k []).getD i []).length:=hin.2.2;omega
  have e1:((zU c L).L.getD k []).getD j 0=L:=flat_lv (show k < c.D.length by omega) hj;have e2:((zU c L).L.getD (k+1) []).getD i 0=L:=flat_lv hk hi;rw[e1,e2]; exact vV _
theorem sum_kept{c:Nat→Prop}[DecidablePred c](f:Nat→Int):∀d,sumI (fun k=> f ((coll d (kf c)).getD k 0).toNat) (coll d (kf c)).length=sumI (fun i=> if c i then f i else 0) d
 |0=> by simp[coll,sumI]
 |d+1=> by
  have ih:=sum_kept (c:=c) f d;by_cases h:c d
  ·have e:coll (d+1) (kf c)=coll d (kf c)++[(d:Int)]:=by rw[zZ]; unfold kf; rw[if_pos h]
   rw[e,wM,List.length_singleton];simp only[sumI];rw[if_pos h,←ih];have e1:sumI (fun k=> f ((coll d (kf c)++[(d:Int)]).getD k 0).toNat) (coll d (kf c)).length=sumI (fun k=> f ((coll d (kf c)).getD k 0).toNat) (coll d (kf c)).length:=zw fun i hi=> by
    rw[gC,gB hi,gC]
   rw[e1,gC,gJ (wE _),uD];simp
  ·have e:coll (d+1) (kf c)=coll d (kf c):=by rw[zZ]; unfold kf; rw[if_neg h,vK]
   rw[e,ih];simp only[sumI];rw[if_neg h,Int.add_zero]
def kI(x:qc)(n:Nat)(q:Int)(i:Nat):Nat:=((qH x n q).getD i 0).toNat
theorem kI_ok{x:qc}{n:Nat}{q:Int}{i:Nat}(hi:i < (qH x n q).length):kI x n q i < dm x n∧lv x n (kI x n q i)≤q:=by
 have hm:=qz hi 0;obtain⟨j,h1,h2,h3⟩:=jp.1 hm;unfold kI;rw[h3,wQ];exact⟨h1,h2⟩
def prtN(x:qc)(q:Int)(k i j:Nat):Int:=zh x.C.M k (kI x (k+1) q i) (kI x k q j)
def jR(x:qc)(q:Int):L1:=(List.range x.L.length).map fun n=>((qH x n q).length:Int)
def ji(x:qc)(q:Int):qc:=⟨⟨x.C.P,jR x q,gT (jR x q) (prtN x q)⟩,(List.range x.L.length).map fun n=>(List.range (qH x n q).length).map fun i=> lv x n (kI x n q i)⟩
theorem jo{x:qc}{q:Int}:(jR x q).length=x.L.length:=by simp[jR]
theorem jy{x:qc}{q:Int}{n:Nat}(hn:n < x.L.length):(jR x q).getD n 0=((qH x n q).length:Int):=by unfold jR; rw[jT hn]
theorem part_inT{x:qc}{q:Int}{k i j:Nat}(h:InT (zM (jR x q)) k i j):k+1 < x.L.length∧i < (qH x (k+1) q).length∧j < (qH x k q).length:=by
 obtain⟨a,b,c⟩:=inT_zM.1 h;rw[jo]at a;rw[jy a]at b;rw[jy (by omega)]at c;exact⟨a,by omega,by omega⟩
theorem num_in{x:qc}(h:qx x){k i j:Nat}(hk:k+1 < x.L.length)(hi:i < dm x (k+1))(hj:j < dm x k):InT x.C.M k i j:=by
 have hll:=h.ll;exact(inT_maps h.vc).2 ⟨by omega,hi,hj⟩
theorem part_valid{x:qc}(hs:qG x)(h:qx x){q:Int}:qx (ji x q):=by
 have hll:=h.ll;have hdl:=h.vc.dl;have rx:=(MapsOK.self h.vc).rng;have rp:∀n,n < x.L.length→(qH x n q).length≤8:=fun n hn=> by
  have a:=xq (x:=x) (n:=n) (q:=q);have b:=(zA h hn).2.1;omega
 have V:zp (ji x q).C:=by
  refine gT_valid h.vc.p (by rw[jo]; omega) (fun d hd=>?_) (fun k i j hin=>?_) fun k i l hk hi hl=>?_
  ·obtain⟨n,hn,rfl⟩:=wL.1 hd
   have:=rp n (wV.1 hn);omega
  ·obtain⟨a,b,c⟩:=part_inT hin
   exact rx _ _ _ (num_in h a (kI_ok b).1 (kI_ok c).1)
  ·rw[jo]at hk
   rw[jy hk,wQ]at hi;rw[jy (by omega),wQ]at hl;rw[jy (show k+1 < x.L.length by omega),wQ];obtain⟨i1,i2⟩:=kI_ok hi;obtain⟨l1,l2⟩:=kI_ok hl;have key:=sum_kept (c:=fun j=> lv x (k+1) j≤q) (fun j=> zh x.C.M (k+1) (kI x (k+2) q i) j*zh x.C.M k j (kI x k q l)) (dm x (k+1));have e:sumI (fun j=> prtN x q (k+1) i j*prtN x q k j l) (qH x (k+1) q).length=sumI (fun j=> zh x.C.M (k+1) (kI x (k+2) q i) j*zh x.C.M k j (kI x k q l)) (dm x (k+1)):=by
    refine Eq.trans key (zw fun j hj=>?_);by_cases c:lv x (k+1) j≤q
    ·rw[if_pos c]
    ·rw[if_neg c]
     have hin:=num_in h hk i1 hj;rcases h.le (k+1) _ j hin with z|z
     ·have:zh x.C.M (k+1) (kI x (k+2) q i) j=0:=z
      rw[this,Int.zero_mul]
     ·exfalso
      have z':lv x (k+1) j≤lv x (k+2) (kI x (k+2) q i):=z;omega
   rw[e];exact sq_sum h.vc (by omega) i1 l1
 have hL:(ji x q).L.length=x.L.length:=by simp[ji]
 have hrow:∀n,n < x.L.length→(ji x q).L.getD n []=(List.range (qH x n q).length).map fun i=> lv x n (kI x n q i):=fun n hn=> by unfold ji; simp only; rw[jT hn]
 refine⟨⟨by rw[hL]; exact jo.symm,fun n hn=>?_⟩,V,fun k i j hin=>?_⟩
 ·rw[hL]at hn
  rw[hrow n hn];refine⟨by simp only[vM,List.length_range]; exact(jy hn).symm,fun l hl=>?_⟩;obtain⟨i,hi,rfl⟩:=wL.1 hl;exact lv_rng h hn (kI_ok (wV.1 hi)).1
 ·have hin':InT (zM (jR x q)) k i j:=gT_shp.inT hin
  obtain⟨a,b,c⟩:=part_inT hin';have hn:zh (ji x q).C.M k i j=prtN x q k i j:=gT_num hin';have e1:((ji x q).L.getD k []).getD j 0=lv x k (kI x k q j):=by rw[hrow k (by omega),jT c]
  have e2:((ji x q).L.getD (k+1) []).getD i 0=lv x (k+1) (kI x (k+1) q i):=by rw[hrow (k+1) a,jT b]
  rcases h.le k _ _ (num_in h a (kI_ok b).1 (kI_ok c).1)with z|z
  ·left; rw[hn]; exact z
  ·right; rw[e1,e2]; exact z
theorem part_len{x:qc}{q:Int}:(ji x q).L.length=x.L.length:=by simp[ji]
structure LvOK (x:qe) (n:Nat) (o:aJ):Prop where
 l:o.length=n
 r:∀m,m < n→(o.getD m []).length=dc x m∧∀y∈o.getD m [],0≤y∧y≤5
theorem lev_loop{x:qe}(h:xZ x){n i:Nat}(hn:n < x.D.length)(hi:i < dc x n){o:aJ}(ho:LvOK x n o){rows:aJ}(hr:n≠0→rows.length=dc x n∧∀r∈rows,r.length=dc x (n - 1))(x1:T2 Int qo)(a:Int)(b:L1)(c:L3)(u:List U8)(v w:Int)(o5:L1):
  ∃t,qY (F453_3_S x x1 o a b c (n:Int) rows u v w o5 (i:Int)) (0,0)=some t∧0≤t∧t≤5:=by
 have hdl:=h.dl;refine qV (S:=F453_3_S x x1 o a b c (n:Int) rows u v w o5 (i:Int)) (fun s=>(100 - s.2).toNat) (fun s=>∃k:Nat,s.2=(k:Int)∧k≤dc x (n - 1)∧0≤s.1∧s.1≤5) _ ⟨0,rfl,vS _,by simp,by simp⟩ ?_;rintro⟨m,k'⟩ ⟨k,p1,p2,p3,p4⟩;simp only at p1 p3 p4;subst p1;have hd:=xW h (n - 1);unfold F453_3_S;simp only;by_cases c0:n=0
 ·right
  rw[if_neg (by omega)];exact⟨_,rfl,p3,p4⟩
 obtain⟨r1,r2⟩:=hr c0;have hn1:n - 1 < x.D.length:=by omega
 rw[if_pos (by omega),qn (by omega) (by omega),ob,show(n:Int) - 1=((n - 1:Nat):Int) by omega,qk hn1 0,ob,dc_atw h hn1];by_cases c1:k < dc x (n - 1)
 ·left
  have hrl:(rows.getD i []).length=dc x (n - 1):=r2 _ (qz (by omega) []);obtain⟨o1,o2⟩:=ho.r (n - 1) (by omega);have hol:=ho.l;rw[if_pos (by omega),qk (show i < rows.length by omega) [],ob,qk (show k < (rows.getD i []).length by omega) 0,ob];by_cases c2:(rows.getD i []).getD k 0=0
  ·rw[if_pos c2,qn (by omega) (by omega),ob]
   exact⟨_,rfl,⟨k+1,rfl,by omega,p3,p4⟩,by simp only; omega⟩
  ·have hy:=o2 _ (qz (show k < (o.getD (n - 1) []).length by omega) 0)
   rw[if_neg c2,qk (show n - 1 < o.length by omega) [],ob,qk (show k < (o.getD (n - 1) []).length by omega) 0,ob,qn (by omega) (by omega),ob];refine⟨_,rfl,⟨k+1,rfl,by omega,?_,?_⟩,by simp only; omega⟩<;>(simp only; split <;> omega)
 ·right
  rw[if_neg (by omega)];exact⟨_,rfl,p3,p4⟩
theorem row_loop{x:qe}(h:xZ x){n:Nat}(hn:n < x.D.length){o:aJ}(ho:LvOK x n o){rows:aJ}(hr:n≠0→rows.length=dc x n∧∀r∈rows,r.length=dc x (n - 1)){x1:T2 Int qo}(h1:0≤x1.a∧x1.a≤5)(a:Int)(b:L1)(c:L3){s:qo}(hs:zB s):
  ∃ (q:qo) (l:L1),qY (kH x x1 o a b c (n:Int) rows) (s.code,s.at_,s.hash,[],0)=some (q.code,q.at_,q.hash,l)∧zB q∧l.length=dc x n∧∀y∈l,0≤y∧y≤5:=by
 have hd:=xW h n;have L:∃t,qY (kH x x1 o a b c (n:Int) rows) (s.code,s.at_,s.hash,[],0)=some t∧(∃ (q:qo) (l:L1),t=(q.code,q.at_,q.hash,l)∧zB q∧l.length=dc x n∧∀y∈l,0≤y∧y≤5):=by
  refine qV (S:=kH x x1 o a b c (n:Int) rows) (fun s=>(100 - s.2.2.2.2).toNat) (fun s=>∃ (q:qo) (l:L1),s=(q.code,q.at_,q.hash,l,(l.length:Int))∧zB q∧l.length≤dc x n∧∀y∈l,0≤y∧y≤5) _ ⟨s,[],rfl,hs,vS _,fun y hy=> nomatch hy⟩ ?_;rintro _ ⟨q,l,rfl,k1,k2,k3⟩;unfold kH;simp only;rw[qk hn 0,ob,dc_atw h hn];by_cases c1:l.length < dc x n
  ·left
   obtain⟨t,g1,g2,g3⟩:=lev_loop h hn c1 ho hr x1 a b c q.code q.at_ q.hash l;obtain⟨v,q2,e1,i1,i2,i3, -⟩:=zC k1 (x1.a+1);have i3':=i3 (by omega);have vf:F416 ⟨q.code,q.at_,q.hash⟩ (x1.a+1)=some ⟨v,q2⟩:=e1;rw[if_pos (by omega),g1,ob,qn (by omega) (by omega),ob,vf,ob];dsimp only;rw[qn (by omega) (by omega),ob,qJ (by simp; omega) (by simp; omega),ob,qn (by omega) (by omega),ob];refine⟨_,rfl,⟨q2,l++[if 5 < t+v then 5 else t+v],by simp,i1,by simp; omega,fun y hy=>?_⟩,by simp only; omega⟩;rcases wG.1 hy with hy|hy
   ·exact k3 y hy
   ·rw[List.mem_singleton.1 hy]; split <;> omega
  ·right
   rw[if_neg (by omega)];exact⟨_,rfl,q,l,rfl,k1,by omega,k3⟩
 obtain⟨_,g1,q,l,rfl,k1,k2,k3⟩:=L;exact⟨q,l,g1,k1,k2,k3⟩
theorem LvOK.snoc{x:qe}{n:Nat}{o:aJ}(h:LvOK x n o){l:L1}(h1:l.length=dc x n)(h2:∀y∈l,0≤y∧y≤5):LvOK x (n+1) (o++[l]):=by
 have hl:=h.l;refine⟨by simp[hl],fun m hm=>?_⟩;by_cases c:m < n
 ·rw[xr (by omega)]; exact h.r m c
 ·have e:m=o.length:=by omega
  subst e;rw[getD_app_one,hl]; exact⟨h1,h2⟩
theorem levels_ok{s:qo}(hs:zB s){x:qe}(h:DrawnC x):∃lv s',F453 s x=some ⟨⟨x,lv⟩,s'⟩∧zB s'∧LvOK x x.D.length lv:=by
 have hw:=h.w;have hl:=h.l;have hdl:=hw.dl;have hml:=hw.ml;have hS:=wide_small hw;obtain⟨v,s1,e1,k1,k2⟩:=xM hs (l:=[0,1,2,2,3,5]) (by simp) (by simp);have hv:0≤v∧v≤5:=by
  simp only[vD,yL,or_false]at k2;omega
 unfold F453;rw[e1,ob];dsimp only;obtain⟨t,g1,g2⟩:=qu (B:=F453_1_B x ⟨v,s1⟩) (D:=F453_1_D x ⟨v,s1⟩) x.D.length rfl (by omega) (fun n t=>∃ (q:qo) (o:aJ),t=(q.code,q.at_,q.hash,o,x.P,x.D,x.M)∧zB q∧LvOK x n o) (fun t=>∃ (q:qo) (o:aJ),t=(q.code,q.at_,q.hash,o,x.P,x.D,x.M)∧zB q∧LvOK x x.D.length o) (s:=(s1.code,s1.at_,s1.hash,[],x.P,x.D,x.M)) ⟨s1,[],rfl,k1,rfl,fun m hm=> absurd hm (yQ _)⟩ (by
  rintro n _ hn ⟨q,o,rfl,h1,h2⟩;left;have hm:∃rows,F76 x (n:Int)=some rows∧(n≠0→rows.length=dc x n∧∀r∈rows,r.length=dc x (n - 1)):=by
   by_cases c:n=0
   ·subst c
    have h8:=xW hw 0;exact⟨_,F76_0 hS.d (by omega) (dc_atw hw (by omega)) (by omega),fun e=> absurd rfl e⟩
   ·obtain⟨m,rfl⟩:∃m,n=m+1:=⟨n - 1,by omega⟩
    obtain⟨r1,r2⟩:=wide_rows hw hn;exact⟨_,F76_eq hS.d hn (by omega),fun _=>⟨r1,fun r hr=>(r2 r hr).len⟩⟩
  obtain⟨rows,a1,a2⟩:=hm;obtain⟨q2,l,b1,b2,b3,b4⟩:=row_loop hw hn h2 a2 (x1:=⟨v,s1⟩) hv x.P x.D x.M h1;have hol:=h2.l;unfold F453_1_B;dsimp only;rw[a1,ob,b1,ob];dsimp only;rw[qJ (by simp only[List.length_singleton]; omega) (by simp only[List.length_singleton]; omega),ob];exact⟨_,rfl,q2,_,rfl,b2,h2.snoc b3 b4⟩) (by
  rintro _ ⟨q,o,rfl,h1,h2⟩;exact⟨_,rfl,q,o,rfl,h1,h2⟩)
 obtain⟨q,o,rfl,h1,h2⟩:=g2;rw[g1,ob];exact⟨o,q,rfl,h1,h2⟩
theorem draw2_ok{s:qo}(hs:zB s):∃x lv s',F452 s=some ⟨⟨x,lv⟩,s'⟩∧zB s'∧DrawnC x∧LvOK x x.D.length lv:=by
 obtain⟨x,s1,e1,k1,k2⟩:=draw_ok hs;obtain⟨lv,s2,e2,k3,k4⟩:=levels_ok k1 k2;unfold F452;rw[e1,ob];dsimp only;rw[e2,ob];exact⟨x,lv,s2,rfl,k3,k2,k4⟩
structure LooseF (x:qc):Prop where
 c:LooseC x.C
 l:x.L.length≤6
 r:∀q∈x.L,q.length≤200
theorem LooseF.small{x:qc}(h:LooseF x):qG x:=⟨h.c.s,by have:=h.l; omega,fun q hq=> by have:=h.r q hq; omega⟩
theorem spoil2_ok{s:qo}(hs:zB s):∃x s',F450 s=some ⟨x,s'⟩∧zB s'∧LooseF x:=by
 obtain⟨x,lv,s1,e1,k1,k2,k3⟩:=draw2_ok hs;have hl:=k2.l;have hdl:=k2.w.dl;have hll:=k3.l;have L:LooseC x:=⟨wide_small k2.w,hdl.1,by omega⟩;have hrow:∀q∈lv,q.length≤100:=fun q hq=> by
  obtain⟨m,hm,rfl⟩:=wN hq;have:=(k3.r m (by omega)).1;rw[show lv.getD m []=lv[m] by simp[hm]]at this;have:=xW k2.w m;omega
 unfold F450;rw[e1,ob];dsimp only;have cp:forR 0 (lv.length:Int) (F450_1_B lv) F450_1_D []=some lv:=by
  obtain⟨t,g1,g2⟩:=qu (B:=F450_1_B lv) (D:=F450_1_D) lv.length rfl (by omega) (fun n t=> t=lv.take n) (fun t=> t=lv) (s:=[]) (by simp) (by
   rintro n _ hn rfl;left;have hq:=hrow _ (qz hn []);unfold F450_1_B;rw[qk hn [],ob,F94_eq (by omega),ob,qJ (by simp only[List.length_singleton,yG]; omega) (by simp only[List.length_singleton,yG]; omega),ob];exact⟨_,rfl,(kn [] hn).symm▸rfl⟩) (by
   rintro _ rfl;exact⟨_,rfl,vH⟩)
  rw[g1,g2]
 rw[cp,ob];obtain⟨n,s2,e2,i1,i2,i3, -⟩:=zC k1 (lv.length:Int);have i3':=i3 (by omega);obtain⟨n',rfl⟩:∃n':Nat,n=(n':Int):=⟨n.toNat,by omega⟩;obtain⟨k,s3,e3,j1,j2,j3, -⟩:=zC i1 40;have hn:n' < lv.length:=by omega
 have hq:=hrow _ (qz hn []);have set_ok:∀r:L1,r.length≤200→∀q∈lv.set n' r,q.length≤200:=fun r hr q hq=> by
  rcases List.mem_or_eq_of_mem_set hq with z|z
  ·have:=hrow q z; omega
  ·rw[z]; exact hr
 have hrow':∀q∈lv,q.length≤200:=fun q hq=> by have:=hrow q hq; omega
 rw[e2,ob];dsimp only;rw[e3,ob];dsimp only;by_cases c0:k=0
 ·rw[if_pos c0,qk hn [],ob,qJ (by simp only[List.length_singleton]; omega) (by simp only[List.length_singleton]; omega),ob,za hn,ob]
  exact⟨_,_,rfl,j1,L,by simp only[yD]; omega,set_ok _ (by simp only[wM,List.length_singleton]; omega)⟩
 rw[if_neg c0];by_cases c1:k=1
 ·rw[if_pos c1,qk hn [],ob]
  by_cases c2:0 < (lv.getD n' []).length
  ·obtain⟨j,s4,e4,m1,m2,m3, -⟩:=zC j1 ((lv.getD n' []).length:Int)
   have m3':=m3 (by omega);obtain⟨j',rfl⟩:∃j':Nat,j=(j':Int):=⟨j.toNat,by omega⟩;obtain⟨v,s5,e5,m4, -⟩:=xM m1 (l:=[(-1),6,0]) (by simp) (by simp);rw[if_pos (by omega),e4,ob];dsimp only;rw[e5,ob];dsimp only;rw[za (by omega),ob,za hn,ob];exact⟨_,_,rfl,m4,L,by simp only[yD]; omega,set_ok _ (by simp only[yD]; omega)⟩
  ·rw[if_neg (by omega)]
   exact⟨_,_,rfl,j1,L,by simp only; omega,hrow'⟩
 rw[if_neg c1];by_cases c2:k=2
 ·rw[if_pos c2,if_pos (by omega)]
  exact⟨_,_,rfl,j1,L,by simp only[yW]; omega,fun q hq=> hrow' q (yF hq)⟩
 rw[if_neg c2];by_cases c3:k=3
 ·obtain⟨y,s4,e4,m1,m2⟩:=bad_ok j1 k2
  rw[if_pos c3,e4,ob];exact⟨_,_,rfl,m1,m2,by simp only; omega,hrow'⟩
 rw[if_neg c3];exact⟨_,_,rfl,j1,L,by simp only; omega,hrow'⟩
theorem with_ok{code:List U8}(h:CodeOK code):∃x r n q,F447 code=some ⟨x,r,n,q⟩∧LooseF x∧(-4611686018427387904≤r∧r≤4611686018427387904)∧(0≤n∧n≤100)∧(0≤q∧q≤100):=by
 obtain⟨s,e1,k1⟩:=from_ok h.l h.b;obtain⟨x,s1,e2,k2,k3⟩:=spoil2_ok k1;obtain⟨v,s2,e3,k4,k5⟩:=near_ok k2 (m:=8) (by omega) (by omega);obtain⟨r,s3,e4,k6,k7⟩:=xM k4 (l:=[0,1,1,2,2,3,v]) (by simp) (by simp);obtain⟨a,s4,e5,k8,k9,ka, -⟩:=zC k6 24;have ka':=ka (by omega);have hl:=k3.l;have qa:quoI a 23=some (a/23):=by
  unfold quoI;rw[if_neg (by omega),Int.tdiv_eq_ediv_of_nonneg (by omega),qn (by omega) (by omega)]
 obtain⟨n,s5,e6,kb,kc,kd,ke⟩:=zC k8 ((x.L.length:Int)+a/23);obtain⟨b,s6,e7,kf,kg,kh, -⟩:=zC kb 24;have kh':=kh (by omega);have qb:quoI b 23=some (b/23):=by
  unfold quoI;rw[if_neg (by omega),Int.tdiv_eq_ediv_of_nonneg (by omega),qn (by omega) (by omega)]
 obtain⟨q,s7,e8,ki,kj,kk,kl⟩:=zC kf (6+b/23);have kk':=kk (by omega);have hn:n≤100:=by
  by_cases c:1≤(x.L.length:Int)+a/23
  ·have:=kd c; omega
  ·have:=ke (by omega); omega
 unfold F447;rw[e1,ob,e2,ob];dsimp only;rw[e3,ob];dsimp only;rw[e4,ob];dsimp only;rw[e5,ob];dsimp only;rw[qa,ob,qn (by omega) (by omega),ob,e6,ob];dsimp only;rw[e7,ob];dsimp only;rw[qb,ob,qn (by omega) (by omega),ob,e8,ob];refine⟨x,r,n,q,rfl,k3,?_,⟨kc,hn⟩,kj,by omega⟩;simp only[vD,yL,or_false]at k7;omega
theorem page_zeroI{x:qc}(hs:qG x)(h:qx x){n:Nat}(hn:n < x.L.length){r q:Int}(hr:0≤r∧r≤8)(hq:0≤q∧q≤5):F166 x r (n:Int) q=some 0:=by
 obtain⟨b,d1,d2⟩:=km hs;have hsl:=hs.l;have hsd:=hs.c.d;have hll:=h.ll;have hb:b=true:=d2.2 h;subst hb;unfold F166;rw[d1,ob,if_pos rfl,xx,ob,if_pos (by simpa using hr),jV hsd,ob,xx,ob,if_pos (by simp; omega),xx,ob,if_pos (by simpa using hq)]
theorem zN_rng{x:qc}(hs:qG x)(h:qx x){n:Nat}(hn:n≤x.L.length){r q:Int}(hr: -100≤r∧r≤100)(hq: -100≤q∧q≤100):0≤zN x r n q∧zN x r n q≤8:=by
 by_cases c:n < x.L.length
 ·have hd:=zA h c
  obtain⟨N,a⟩:=zu hs h c hr hq;have:=zg a.red;rw[a.len]; omega
 ·have:n=x.L.length:=by omega
  rw[this,zN_top hs h hr hq]; omega
theorem pgN_rng{x:qc}(hs:qG x)(h:qx x){n:Nat}(hn:n < x.L.length){r q:Int}(hr: -30≤r∧r≤30)(hq: -30≤q∧q≤30): -16≤pgN x r n q∧pgN x r n q≤16:=by
 have a:=zN_rng hs h (Nat.le_of_lt hn) (r:=r) (q:=q) (by omega) (by omega);have b:=zN_rng hs h (Nat.le_of_lt hn) (r:=r - 1) (q:=q - 1) (by omega) (by omega);have c:=zN_rng hs h (show n+1≤x.L.length by omega) (r:=r - 1) (q:=q+r - 1) (by omega) (by omega);have d:=zN_rng hs h (show n+1≤x.L.length by omega) (r:=r) (q:=q+r - 1) (by omega) (by omega);unfold pgN; omega
theorem lim_rng{x:qc}(hs:qG x)(h:qx x){n:Nat}(hn:n < x.L.length){q:Nat}(hq:q < 6): -8≤limN x n q∧limN x n q≤8:=by
 obtain⟨Z,B,W, -, -, -,w1, -,w2,w3⟩:=xP hs h hn (q:=(q:Int)) (by omega);obtain⟨Z',B',W', -, -, -,y1, -,y2,y3⟩:=xP hs h hn (q:=(q:Int) - 1) (by omega);unfold limN; omega
theorem sumI_le{f:Nat→Int}{b:Nat}:∀ {n:Nat},(∀i,i < n→ -(b:Int)≤f i∧f i≤b)→ -((n*b:Nat):Int)≤sumI f n∧sumI f n≤((n*b:Nat):Int)
 |0,_=> by simp[sumI]
 |n+1,h=> by
  have a:=sumI_le (n:=n) fun i hi=> h i (by omega);have c:=h n (by omega);simp only[sumI,Nat.add_mul,Nat.one_mul];omega
theorem row_sum{g:Nat→Int}(h:∀q,q < 6→ -1000≤g q∧g q≤1000):F150 ((List.range 6).map g)=some (sumI g 6):=by
 rw[F150_eq (by simp) (fun y hy=> by
  obtain⟨i,hi,rfl⟩:=wL.1 hy;exact h i (wV.1 hi))]
 refine congrArg some ?_;rw[vM,List.length_range];exact zw fun i hi=> by rw[nth_mapg (by simpa using hi),List.getElem_range]
theorem pt_fine{x:qc}(hs:qG x)(h:qx x){r:Int}(hr:0≤r∧r≤8):F148 x r=some ⟨tab6 x.L.length (fun n q=> pgN x r n (q:Int)),0⟩:=by
 have hl:=h.ll;have hdl:=h.vc.dl;have pz:F166 x r 0 0=some 0:=page_zeroI hs h (n:=0) (q:=0) (by omega) hr (by simp);unfold F148;rw[pz,ob,if_pos rfl,table_eq h (g:=fun n q=> pgN x r n (q:Int)) (fun n q hn hq=> by
  unfold F167;rw[page_num hs h hn (by omega) (by omega),ob]),ob]
theorem F160_same{l:aJ}(h:l.length≤1000)(h2:∀r∈l,r.length≤1000):F160 l l=some true:=by
 unfold F160;rw[if_pos rfl,eq_loop' (by omega) (fun i hi=> by
  unfold F160_1_B;rw[qk hi [],ob,ob,F156_same (h2 _ (qz hi [])),ob,if_pos rfl]) fun i=> rfl,ob]
theorem tab6_small{L:Nat}(hL:L≤1000)(g:Nat→Nat→Int):(tab6 L g).length≤1000∧∀r∈tab6 L g,r.length≤1000:=
 ⟨by rw[tab6_len]; exact hL,fun r hr=> by rw[tab6_rows r hr]; omega⟩
theorem hom_one{x:qc}(hs:qG x)(h:qx x){n:Nat}(hn:n < x.L.length):F168 x.C (n:Int)=some (sumI (fun q=> limN x n q) 6):=by
 obtain⟨K,B, -,k2, -,b2,e⟩:=lim_total hs h hn;have r:=sumI_le (f:=fun q=> limN x n q) (b:=8) (n:=6) fun i hi=> lim_rng hs h hn hi;unfold F168;rw[k2,ob,b2,ob,qn (by omega) (by omega),ob,e]
theorem hom_all{x:qc}(hs:qG x)(h:qx x):F149 x.C=some ⟨(List.range x.L.length).map fun n=> sumI (fun q=> limN x n q) 6,0⟩:=by
 have hll:=h.ll;have hdl:=h.vc.dl;obtain⟨b,e1,e2⟩:=F42_tells hs.c;have hb:b=true:=e2.2 h.vc;unfold F149;rw[e1,hb,ob,if_pos rfl,←hll,xV (n:=x.L.length) (fun(n:Nat)=>[sumI (fun q=> limN x n q) 6]) (by omega) (fun n=> by simp) (by
  intro n s hn hsl;unfold F149_1_B;rw[hom_one hs h hn,ob,qJ (by simp; omega) (by simp; omega),ob]) (by intro i s; rfl),ob,zD]
def LongU(a:U8):Prop:=0≤a.val∧a.val≤255
theorem F182_same{l:T3s}(h:l.length≤1000)(h2:∀m∈l,m.length≤1000∧∀r∈m,r.length≤1000):F182 l l=some true:=by
 unfold F182;rw[if_pos rfl,eq_loop' (by omega) (fun i hi=> by
  have hm:=h2 _ (qz hi []);unfold F182_1_B;rw[qk hi [],ob,ob,F160_same hm.1 hm.2,ob,if_pos rfl]) fun i=> rfl,ob]
structure TinyF (y:qc):Prop where
 d:y.C.D.length≤1000
 m:y.C.M.length≤1000
 r:∀m∈y.C.M,m.length≤1000∧∀r∈m,r.length≤1000
 l:y.L.length≤1000
 v:∀q∈y.L,q.length≤1000
theorem F146_same{y:qc}(h:TinyF y):F146 y y=some true:=by
 unfold F146 F159;rw[if_pos rfl,F156_same h.d,ob,if_pos rfl,F182_same h.m h.r,ob,ob,if_pos rfl,F160_same h.l h.v,ob]
theorem tiny_valid{y:qc}(h:qx y):TinyF y:=by
 have hw:=h.vc.wide;have hdl:=h.vc.dl;have hml:=h.vc.ml;have hll:=h.ll;refine⟨by omega,by omega,fun m hm=>?_,by omega,fun q hq=>?_⟩
 ·obtain⟨k,hk,rfl⟩:=wN hm
  obtain⟨r1,r2⟩:=wide_rows hw (k:=k) (by omega);rw[mapsD hk]at r1 r2;have a:=xW hw (k+1);have b:=xW hw k;exact⟨by omega,fun r hr=> by have:=(r2 r hr).len; omega⟩
 ·obtain⟨k,hk,rfl⟩:=wN hq
  have:=zA h hk;rw[show y.L.getD k []=y.L[k] by simp[hk]]at this;omega
theorem tiny_none:TinyF ⟨⟨0,[],[]⟩,[]⟩:=⟨by simp,by simp,fun m hm=>(nomatch hm),by simp,fun q hq=>(nomatch hq)⟩
theorem F211_at{l:L1}{v:Int}(hl:l.length≤1000):∃r:Int,F211 l v=some r∧((r= -1∧v∉l)∨∃i:Nat,i < l.length∧r=(i:Int)∧l.getD i 0=v):=by
 obtain⟨t,g1,g2⟩:=qu (B:=kJ l v) (D:=F211_1_D l v) l.length rfl (by omega) (fun i _=>∀j,j < i→l.getD j 0≠v) (fun t=> match t with| .inl _=> v∉l| .inr r=>∃i:Nat,i < l.length∧r=(i:Int)∧l.getD i 0=v) (s:=()) (fun j hj=> absurd hj (yQ _)) (by
  rintro i ⟨⟩ hi hI;unfold kJ;rw[qk hi 0,ob];by_cases c:v=l.getD i 0
  ·right
   rw[if_pos c];exact⟨_,rfl,i,hi,rfl,c.symm⟩
  ·left
   rw[if_neg c];refine⟨(),rfl,fun j hj=>?_⟩;by_cases e:j=i
   ·subst e; exact fun h=> c h.symm
   ·exact hI j (by omega)) (by
  rintro⟨⟩ hI;refine⟨_,rfl,fun hv=>?_⟩;obtain⟨j,hj,e⟩:=wN hv;exact hI j hj (by rw[←e]; simp[hj]))
 unfold F211;rw[g1,ob];cases t with
 |inl _=> exact⟨_,rfl,.inl ⟨rfl,g2⟩⟩
 |inr r=> exact⟨_,rfl,.inr g2⟩
def posn(x:qc)(n:Nat)(q:Int)(a:Nat):Nat:=(coll a (kf fun j=> lv x n j≤q)).length
theorem posn_kI{x:qc}{n:Nat}{q:Int}{i:Nat}(hi:i < (qH x n q).length):posn x n q (kI x n q i)=i∧(qH x n q).getD i 0=(kI x n q i:Int):=by
 have hi':i < (coll (dm x n) (kf fun j=> lv x n j≤q)).length:=hi;obtain⟨a,a1,a2,a3,a4⟩:=coll_get hi';have a3':(qH x n q).getD i 0=(a:Int):=a3;unfold kI;rw[a3',wQ];exact⟨a4,rfl⟩
theorem xF{x:qc}{n:Nat}{q:Int}{a:Nat}(ha:a < dm x n)(hq:lv x n a≤q):posn x n q a < (qH x n q).length∧kI x n q (posn x n q a)=a:=by
 have hm:((a:Int))∈qH x n q:=jp.2 ⟨a,ha,hq,rfl⟩;obtain⟨i,hi,e⟩:=wN hm;obtain⟨p1,p2⟩:=posn_kI hi;have e2:(qH x n q).getD i 0=(a:Int):=by rw[←e]; simp[hi]
 have e3:kI x n q i=a:=by omega
 rw[←e3,p1];exact⟨hi,rfl⟩
theorem F211_kept{x:qc}{n:Nat}{q:Int}(hl:(qH x n q).length≤1000){a:Nat}(ha:a < dm x n):F211 (qH x n q) (a:Int)=some (if lv x n a≤q then(posn x n q a:Int)else -1):=by
 obtain⟨r,e,h⟩:=F211_at (l:=qH x n q) (v:=(a:Int)) hl;rw[e];refine congrArg some ?_;rcases h with⟨h1,h2⟩|⟨i,h1,h2,h3⟩
 ·rw[if_neg fun h=> h2 (jp.2 ⟨a,ha,h,rfl⟩),h1]
 ·obtain⟨p1,p2⟩:=posn_kI h1
  have e3:kI x n q i=a:=by omega
  have k:=(kI_ok h1).2;rw[e3]at p1 k;rw[if_pos k,h2,p1]
structure PB (s0 ms:T3s) (B:Nat→Nat→Nat→Prop) (φ:Nat→Nat→Nat→Nat×Nat×Nat) (val:Nat→Nat→Nat→Int) (D:Nat→Nat→Nat→Prop) (s:T3s):Prop where
 shp:Shp s s0
 at':∀k i j,InT ms k i j→B k i j→(D k i j→zh s (φ k i j).1 (φ k i j).2.1 (φ k i j).2.2=val k i j)∧(¬D k i j→zh s (φ k i j).1 (φ k i j).2.1 (φ k i j).2.2=zh s0 (φ k i j).1 (φ k i j).2.1 (φ k i j).2.2)
theorem PB.imp{s0 ms:T3s}{B:Nat→Nat→Nat→Prop}{φ:Nat→Nat→Nat→Nat×Nat×Nat}{val:Nat→Nat→Nat→Int}{D D':Nat→Nat→Nat→Prop}{s:T3s}(h:PB s0 ms B φ val D s)(hd:∀k i j,InT ms k i j→B k i j→(D k i j↔D' k i j)):PB s0 ms B φ val D' s:=
 ⟨h.shp,fun k i j hin hb=>⟨fun d=>(h.at' k i j hin hb).1 ((hd k i j hin hb).2 d),fun d=>(h.at' k i j hin hb).2 fun x=> d ((hd k i j hin hb).1 x)⟩⟩
theorem PB.zero{s0 ms:T3s}{B:Nat→Nat→Nat→Prop}{φ:Nat→Nat→Nat→Nat×Nat×Nat}{val:Nat→Nat→Nat→Int}:PB s0 ms B φ val (fun _ _ _=> False) s0:=⟨.refl _,fun k i j _ _=>⟨fun x=> x.elim,fun _=> rfl⟩⟩
theorem PB.step{s0 ms:T3s}{B:Nat→Nat→Nat→Prop}{φ:Nat→Nat→Nat→Nat×Nat×Nat}{val:Nat→Nat→Nat→Int}(hi:∀k i j,InT ms k i j→B k i j→InT s0 (φ k i j).1 (φ k i j).2.1 (φ k i j).2.2)(hinj:∀k i j k' i' j',InT ms k i j→InT ms k' i' j'→B k i j→B k' i' j'→φ k i j=φ k' i' j'→k=k'∧i=i'∧j=j')
  {D D':Nat→Nat→Nat→Prop} {s:T3s} (h:PB s0 ms B φ val D s) {k i j:Nat} (hin:InT ms k i j) (hB:B k i j) (hd:∀k' i' j',D' k' i' j'↔D k' i' j'∨(k'=k∧i'=i∧j'=j)):PB s0 ms B φ val D' (put3 s (φ k i j).1 (φ k i j).2.1 (φ k i j).2.2 (val k i j)):=by
 have hs:=h.shp.inT (hi k i j hin hB);refine⟨(put3_shp hs _).trans h.shp,fun k' i' j' hin' hB'=>?_⟩;rw[put3_at hs];by_cases e:k'=k∧i'=i∧j'=j
 ·obtain⟨rfl,rfl,rfl⟩:=e
  rw[if_pos ⟨rfl,rfl,rfl⟩];exact⟨fun _=> rfl,fun d=> absurd ((hd _ _ _).2 (.inr ⟨rfl,rfl,rfl⟩)) d⟩
 ·rw[if_neg fun q=> e (hinj k' i' j' k i j hin' hin hB' hB (Prod.ext q.1 (Prod.ext q.2.1 q.2.2)))]
  refine⟨fun d=>(h.at' _ _ _ hin' hB').1 (((hd _ _ _).1 d).resolve_right e),fun d=>(h.at' _ _ _ hin' hB').2 fun x=> d ((hd _ _ _).2 (.inl x))⟩
theorem F85_putB{s0 ms:T3s}{B:Nat→Nat→Nat→Prop}{φ:Nat→Nat→Nat→Nat×Nat×Nat}{val:Nat→Nat→Nat→Int}(hs:SmallT ms)(hi:∀k i j,InT ms k i j→B k i j→InT s0 (φ k i j).1 (φ k i j).2.1 (φ k i j).2.2)(hinj:∀k i j k' i' j',InT ms k i j→InT ms k' i' j'→B k i j→B k' i' j'→φ k i j=φ k' i' j'→k=k'∧i=i'∧j=j')
  {g:Int→Int→Int→Int→T3s→Option T3s} (hg:∀ (k i j:Nat) s,InT ms k i j→Shp s s0→(B k i j→zh s (φ k i j).1 (φ k i j).2.1 (φ k i j).2.2=zh s0 (φ k i j).1 (φ k i j).2.1 (φ k i j).2.2→g ((k:Int)+1) i j (zh ms k i j) s=some (put3 s (φ k i j).1 (φ k i j).2.1 (φ k i j).2.2 (val k i j)))∧(¬B k i j→g ((k:Int)+1) i j (zh ms k i j) s=some s)):
  ∃r,F85 ms g s0=some r∧PB s0 ms B φ val (fun _ _ _=> True) r:=by
 unfold F85;have hm:=hs.m;have hl1:ms.length < 4611686018427387904:=by omega
 refine qu (τ:=T3s) (σ:=T3s) ms.length rfl hl1 (fun n s=> PB s0 ms B φ val (fun k _ _=> k < n) s) _ (PB.zero.imp fun k i j _ _=> by simp) ?_ ?_
 ·intro k s hk hI
  left;rw[qk hk [],ob];have hmem:ms.getD k []∈ms:=qz hk [];have hmr:=hs.r _ hmem;have hl2:(ms.getD k []).length < 4611686018427387904:=by have:=hmr.1; omega
  suffices hx:∃t,forR 0 ((ms.getD k []).length:Int) _ _ s=some t∧PB s0 ms B φ val (fun k' _ _=> k' < k+1) t by
   obtain⟨t,g1,g2⟩:=hx;rw[g1,ob];exact⟨t,rfl,g2⟩
  refine qu (τ:=T3s) (σ:=T3s) (ms.getD k []).length rfl hl2 (fun n s=> PB s0 ms B φ val (fun k' i _=> k' < k∨(k'=k∧i < n)) s) _ (hI.imp fun k i j _ _=> by simp) ?_ ?_
  ·intro i s hi' hI2
   left;rw[qk hi' [],ob];have nE:(ms.getD k []).getD i []∈ms.getD k []:=qz hi' [];have tA:((ms.getD k []).getD i []).length < 4611686018427387904:=by have:=hmr.2 _ nE; omega
   suffices hx:∃t,forR 0 (((ms.getD k []).getD i []).length:Int) _ _ s=some t∧PB s0 ms B φ val (fun k' i' _=> k' < k∨(k'=k∧i' < i+1)) t by
    obtain⟨t,g1,g2⟩:=hx;rw[g1,ob];exact⟨t,rfl,g2⟩
   refine qu (τ:=T3s) (σ:=T3s) ((ms.getD k []).getD i []).length rfl tA (fun n s=> PB s0 ms B φ val (fun k' i' j=> k' < k∨(k'=k∧(i' < i∨(i'=i∧j < n)))) s) _ (hI2.imp fun k i j _ _=> by simp) ?_ ?_
   ·intro j s hj hI3
    left;have hin:InT ms k i j:=⟨hk,hi',hj⟩;have hnd:¬(k < k∨(k=k∧(i < i∨(i=i∧j < j)))):=by omega
    rw[qk hj 0,ob,qn (by omega) (by omega),ob];by_cases hB:B k i j
    ·have hold:=(hI3.at' k i j hin hB).2 hnd
     have e':g ((k:Int)+1) i j (((ms.getD k []).getD i []).getD j 0) s=_:=(hg k i j s hin hI3.shp).1 hB hold;refine⟨_,by rw[e',ob],hI3.step hi hinj hin hB fun k' i' j'=> by omega⟩
    ·have e':g ((k:Int)+1) i j (((ms.getD k []).getD i []).getD j 0) s=_:=(hg k i j s hin hI3.shp).2 hB
     refine⟨_,by rw[e',ob],hI3.imp fun k' i' j' _ hB'=>?_⟩;by_cases e:k'=k∧i'=i∧j'=j
     ·obtain⟨rfl,rfl,rfl⟩:=e; exact absurd hB' hB
     ·omega
   ·intro s hI3
    refine⟨s,rfl,hI3.imp fun k' i' j' hin' _=>?_⟩;constructor
    ·omega
    ·intro q
     by_cases e:k'=k∧i'=i
     ·obtain⟨rfl,rfl⟩:=e
      have hj:=hin'.2.2;omega
     ·omega
  ·intro s hI2
   refine⟨s,rfl,hI2.imp fun k' i' j' hin' _=>?_⟩;constructor
   ·omega
   ·intro q
    by_cases e:k'=k
    ·subst e
     have hj:=hin'.2.1;omega
    ·omega
 ·intro s hI
  refine⟨s,rfl,hI.imp fun k i j hin _=>?_⟩;have:=hin.1;simp[this]
theorem map_getD{β:Type}{l:L1}(g:Int→β):(List.range l.length).map (fun i=> g (l.getD i 0))=l.map g:=by
 refine yX (by simp) fun i h1 h2=>?_;have hi:i < l.length:=by simpa using h1
 simp[hi]
theorem part_row{x:qc}{n:Nat}{q:Int}:((List.range (qH x n q).length).map fun i=> lv x n (kI x n q i))=(qH x n q).map fun v=> lv x n v.toNat:=map_getD (l:=qH x n q) fun v=> lv x n v.toNat
theorem kept_le{x:qc}(h:qx x){n:Nat}(hn:n < x.L.length){q:Int}:(qH x n q).length≤8:=by
 have a:=xq (x:=x) (n:=n) (q:=q);have b:=(zA h hn).2.1;omega
theorem kept_at{x:qc}{n:Nat}{q:Int}{k:Nat}(hk:k < (qH x n q).length):∃j:Nat,(qH x n q)[k]=(j:Int)∧j < dm x n∧lv x n j≤q:=by
 obtain⟨j,h1,h2,h3⟩:=jp.1 (wC hk);exact⟨j,h3,h1,h2⟩
theorem part_prog{x:qc}(hs:qG x)(h:qx x){q:Int}(hq:0≤q∧q≤5):F442 x q=some ⟨ji x q,0⟩:=by
 have hll:=h.ll;have hdl:=h.vc.dl;have hml:=h.vc.ml;have hp:=h.vc.p.range;have sx:SmallT x.C.M:=⟨hs.c.m,hs.c.r⟩;have rx:=(MapsOK.self h.vc).rng;have pz:F166 x 0 0 q=some 0:=page_zeroI hs h (n:=0) (r:=0) (by omega) (by omega) hq
 -- levels and dimensions
 obtain⟨t,g1,g2⟩:=qu (B:=F442_1_B x q) (D:=F442_1_D) x.C.D.length rfl (by omega) (fun n s=> s=((ji x q).L.take n,(jR x q).take n)) (fun s=> s=((ji x q).L,jR x q)) (s:=([],[])) (by simp) (by
  rintro n _ hn rfl;left;have hn':n < x.L.length:=by omega
  have hd:=zA h hn';have rp:=kept_le h hn' (q:=q);have inner:forR 0 ((qH x n q).length:Int) (F442_2_B x.L (n:Int) (qH x n q)) F442_2_D []=some ((qH x n q).map fun v=> lv x n v.toNat):=by
   rw[jA (fun v=> lv x n v.toNat) (by omega) (fun k hk s oD=> by
    obtain⟨j,j1,j2,j3⟩:=kept_at hk;have e:getI (x.L.getD n []) (j:Int)=some (lv x n j):=qk (by omega) 0;unfold F442_2_B;rw[qr hk,ob,qk hn' [],ob,j1,e,ob,qJ (by simp; simp at oD; omega) (by simp; simp at oD; omega),ob,wQ]) (by intro i s; rfl),vN]
  have hLl:(ji x q).L.length=x.L.length:=part_len;have hDl:(jR x q).length=x.L.length:=jo;have e1:(ji x q).L.getD n []=(qH x n q).map fun v=> lv x n v.toNat:=by
   unfold ji; simp only; rw[jT hn',part_row]
  have e2:=jy (q:=q) hn';unfold F442_1_B;dsimp only;rw[F202_eq hs h hn' q,ob,inner,ob,qJ (by simp; omega) (by simp; omega),ob,qJ (by simp; omega) (by simp; omega),ob,vM];refine⟨_,rfl,?_⟩;rw[←e1,←e2,kn [] (by omega),kn 0 (by omega)]) (by
  rintro _ rfl;refine⟨_,rfl,?_⟩;have hLl:(ji x q).L.length=x.L.length:=part_len;have hDl:(jR x q).length=x.L.length:=jo;rw[wR (by omega),wR (by omega)])
 -- the tables
 have hkd:∀k,k < x.L.length→((jR x q).getD k 0).toNat=(qH x k q).length:=fun k hk=> by rw[jy hk,wQ]
 have inP:∀k i j,InT (zM (jR x q)) k i j↔k+1 < x.L.length∧i < (qH x (k+1) q).length∧j < (qH x k q).length:=fun k i j=> by
  rw[inT_zM,jo];constructor
  ·rintro⟨a,b,c⟩
   rw[hkd _ a]at b; rw[hkd _ (by omega)]at c;exact⟨a,b,c⟩
  ·rintro⟨a,b,c⟩
   exact⟨a,by rw[hkd _ a]; exact b,by rw[hkd _ (by omega)]; exact c⟩
 obtain⟨r,a1,a2⟩:=F85_putB (s0:=zM (jR x q)) (ms:=x.C.M) (B:=fun k i j=> lv x (k+1) i≤q∧lv x k j≤q) (φ:=fun k i j=>(k,posn x (k+1) q i,posn x k q j)) (val:=fun k i j=> zh x.C.M k i j) (g:=fun n r pl v s=> F449 x.C.P x q n r pl v s) sx (fun k i j hin hB=> by
  obtain⟨a,b,c⟩:=(inT_maps h.vc).1 hin;exact(inP _ _ _).2 ⟨by omega,(xF b hB.1).1,(xF c hB.2).1⟩) (fun k i j k' i' j' q1 q2 hB hB' e=> by
  obtain⟨a,b,c⟩:=(inT_maps h.vc).1 q1;obtain⟨a',b',c'⟩:=(inT_maps h.vc).1 q2;simp only[wF]at e;obtain⟨rfl,e1,e2⟩:=e;refine⟨rfl,?_,?_⟩
  ·rw[←(xF b hB.1).2,e1,(xF b' hB'.1).2]
  ·rw[←(xF c hB.2).2,e2,(xF c' hB'.2).2]) (fun k i j s hin hsh=> by
  obtain⟨a,b,c⟩:=(inT_maps h.vc).1 hin;have hv:=rx k i j hin;have hk1:k+1 < x.L.length:=by omega
  have l1:=kept_le h hk1 (q:=q);have l0:=kept_le h (n:=k) (by omega) (q:=q);have pre:∀ {o:Option T3s},(if 0≤(if lv x (k+1) i≤q then(posn x (k+1) q i:Int)else -1)then if 0≤(if lv x k j≤q then(posn x k q j:Int)else -1)then F75 x.C.P ((k:Int)+1) (if lv x (k+1) i≤q then(posn x (k+1) q i:Int)else -1) (if lv x k j≤q then(posn x k q j:Int)else -1) (zh x.C.M k i j) s else some s else some s)=o→F449 x.C.P x q ((k:Int)+1) (i:Int) (j:Int) (zh x.C.M k i j) s=o:=fun {o} e=> by
   unfold F449;rw[show(k:Int)+1=((k+1:Nat):Int) by omega,F202_eq hs h hk1 q,ob,F211_kept (by omega) b,ob,qn (by omega) (by omega),ob,show((k+1:Nat):Int) - 1=(k:Int) by omega,F202_eq hs h (by omega) q,ob,F211_kept (by omega) c,ob];exact e
  constructor
  ·rintro⟨B1,B2⟩ hz
   have hc:=(inP k _ _).2 ⟨hk1,(xF b B1).1,(xF c B2).1⟩;refine pre ?_;rw[if_pos B1,if_pos B2,if_pos (by omega),if_pos (by omega),F75_zero hp (hsh.inT hc) (by omega) (by rw[hz]; exact zM_zero hc) (by omega),vZ hv.1 hv.2]
  ·intro hB
   refine pre ?_;by_cases B1:lv x (k+1) i≤q
   ·have B2:¬lv x k j≤q:=fun z=> hB ⟨B1,z⟩
    rw[if_pos B1,if_neg B2,if_pos (by omega),if_neg (by decide)]
   ·rw[if_neg B1,if_neg (by decide)])
 have hr:r=gT (jR x q) (prtN x q):=gT_eq a2.shp fun k i j hin=> by
  obtain⟨a,b,c⟩:=(inP k i j).1 hin;obtain⟨i1,i2⟩:=kI_ok b;obtain⟨j1,j2⟩:=kI_ok c;have:=(a2.at' k _ _ (num_in h a i1 j1) ⟨i2,j2⟩).1 trivial;simp only at this;rw[(posn_kI b).1,(posn_kI c).1]at this;rw[this]; rfl
 have hD:∀d∈jR x q,0≤d∧d≤1000:=fun d hd=> by
  obtain⟨n,hn,rfl⟩:=wL.1 hd;have:=kept_le h (wV.1 hn) (q:=q);omega
 unfold F442;rw[pz,ob,if_pos rfl,g1,ob,g2];dsimp only;rw[F74_big (by rw[jo]; omega) (by rw[jo]; omega) hD,ob];dsimp only;rw[a1,ob,hr];rfl
theorem part_spec{x:qc}(hs:qG x)(h:qx x){q:Int}(hq:0≤q∧q≤5):F443 x q=some ⟨ji x q,0⟩:=by
 have hll:=h.ll;have hdl:=h.vc.dl;have hml:=h.vc.ml;obtain⟨b,d1,d2⟩:=F38_tells hs;have hb:b=true:=d2.2 h;have hLl:(ji x q).L.length=x.L.length:=part_len;have hDl:(jR x q).length=x.L.length:=jo;have hTl:(gT (jR x q) (prtN x q)).length=x.L.length - 1:=by rw[gT_len,hDl]
 obtain⟨t,g1,g2⟩:=qu (B:=F443_1_B x q) (D:=F443_1_D x q) x.L.length rfl (by omega) (fun n s=> s=((jR x q).take n,(gT (jR x q) (prtN x q)).take (n - 1),(ji x q).L.take n,x.C.P)) (fun s=> s=(jR x q,gT (jR x q) (prtN x q),(ji x q).L,x.C.P)) (s:=([],[],[],x.C.P)) (by simp) (by
  rintro n _ hn rfl;left;have hd:=zA h hn;have rp:=kept_le h hn (q:=q);have e1:(ji x q).L.getD n []=(qH x n q).map fun v=> lv x n v.toNat:=by
   unfold ji; simp only; rw[jT hn,part_row]
  have e2:=jy (q:=q) hn;have lev:∀ (o2:L1) (o3:T3s) (o4:aJ) (q5:Int),forR 0 ((qH x n q).length:Int) (F443_2_B x q o2 o3 o4 q5 (n:Int) (qH x n q)) (F443_2_D x q o2 o3 o4 q5 (n:Int) (qH x n q)) []=some ((qH x n q).map fun v=> lv x n v.toNat):=fun o2 o3 o4 q5=> by
   rw[jA (fun v=> lv x n v.toNat) (by omega) (fun k hk s oD=> by
    obtain⟨j,j1,j2,j3⟩:=kept_at hk;unfold F443_2_B;rw[qr hk,ob,j1,F77_lv h hn j2,ob,qJ (by simp; simp at oD; omega) (by simp; simp at oD; omega),ob,wQ]) (by intro i s; rfl),vN]
  unfold F443_1_B;dsimp only;rw[F310_eq hs h hn q,ob,lev,ob,qJ (by simp; omega) (by simp; omega),ob,qJ (by simp; omega) (by simp; omega),ob];have f1:(ji x q).L.take n++[(qH x n q).map fun v=> lv x n v.toNat]=(ji x q).L.take (n+1):=by rw[←e1,kn [] (by omega)]
  have f2:(jR x q).take n++[((qH x n q).length:Int)]=(jR x q).take (n+1):=by rw[←e2,kn 0 (by omega)]
  rw[f1,f2];by_cases c0:n=0
  ·subst c0
   rw[if_pos (by omega)];exact⟨_,rfl,rfl⟩
  ·obtain⟨m,rfl⟩:∃m,n=m+1:=⟨n - 1,by omega⟩
   have hm:m < x.L.length:=by omega
   have lk:=kept_le h hm (q:=q);have rQ:=zA h hm;obtain⟨w1,w2⟩:=wide_rows h.vc.wide (k:=m) (by omega);have dm1:dc x.C (m+1)=dm x (m+1):=rfl;have dm0:dc x.C m=dm x m:=rfl;have tab:∀ (o3:T3s) (q5:Int) (zo:L1) (fE:L1) (fD:aJ),forR 0 ((qH x (m+1) q).length:Int) (F443_3_B x q o3 q5 ((m+1:Nat):Int) (qH x (m+1) q) zo fE fD (qH x m q) (x.C.M.getD m [])) (F443_3_D x q o3 q5 ((m+1:Nat):Int) (qH x (m+1) q) zo fE fD (qH x m q) (x.C.M.getD m [])) []=some ((qH x (m+1) q).map fun u=>(qH x m q).map fun v=> zh x.C.M m u.toNat v.toNat):=fun o3 q5 zo fE fD=> by
    rw[jA (fun u=>(qH x m q).map fun v=> zh x.C.M m u.toNat v.toNat) (by omega) (fun k hk s oD=> by
     obtain⟨i,i1,i2,i3⟩:=kept_at hk;unfold F443_3_B;rw[jA (fun v=> zh x.C.M m i v.toNat) (by omega) (fun k2 hk2 s2 rk=> by
      obtain⟨j,j1,j2,j3⟩:=kept_at hk2;have r1:i < (x.C.M.getD m []).length:=by omega
      have e:getI ((x.C.M.getD m []).getD i []) (j:Int)=some (zh x.C.M m i j):=qk (by rw[(w2 _ (qz r1 [])).len]; omega) 0;unfold F443_4_B;rw[qr hk,ob,i1,qk r1 [],ob,qr hk2,ob,j1,e,ob,qJ (by simp; simp at rk; omega) (by simp; simp at rk; omega),ob,wQ]) (by intro i s; rfl),ob,vN,qJ (by simp; simp at oD; omega) (by simp; simp at oD; omega),ob,i1,wQ]) (by intro i s; rfl),vN]
   have e3:(gT (jR x q) (prtN x q)).getD m []=(qH x (m+1) q).map fun u=>(qH x m q).map fun v=> zh x.C.M m u.toNat v.toNat:=by
    rw[gT_at (by rw[hDl]; exact hn),jy hn,jy hm,wQ,wQ];have a:=map_getD (l:=qH x (m+1) q) fun u=>(qH x m q).map fun v=> zh x.C.M m u.toNat v.toNat;rw[←a];refine yO fun i hi=>?_;have b:=map_getD (l:=qH x m q) fun v=> zh x.C.M m ((qH x (m+1) q).getD i 0).toNat v.toNat;rw[←b]; rfl
   rw[if_neg (by omega),qn (by omega) (by omega),ob,show((m+1:Nat):Int) - 1=(m:Int) by omega,F310_eq hs h hm q,ob,F76_eq hs.c.d (by omega) (by omega),ob,tab,ob,qJ (by simp; omega) (by simp; omega),ob,vC,←e3,kn [] (by omega)];exact⟨_,rfl,by rw[vC]⟩) (by
  rintro _ rfl;refine⟨_,rfl,?_⟩;rw[wR (by omega),wR (by omega),wR (by omega)])
 unfold F443;rw[d1,hb,ob,if_pos rfl,xy,ob,if_pos (by simpa using hq),g1,ob,g2];rfl
theorem part_same{x:qc}(hs:qG x)(q:Int):∃y c,F442 x q=some ⟨y,c⟩∧F443 x q=some ⟨y,c⟩∧TinyF y∧(c=0→qx x∧y=ji x q):=by
 by_cases hv:qx x
 ·have hll:=hv.ll
  have hdl:=hv.vc.dl;by_cases hq:0≤q∧q≤5
  ·exact⟨_,_,part_prog hs hv hq,part_spec hs hv hq,tiny_valid (part_valid hs hv),fun _=>⟨hv,rfl⟩⟩
  ·obtain⟨b,d1,d2⟩:=F38_tells hs
   have hb:b=true:=d2.2 hv;obtain⟨b',vh,vg⟩:=km hs;have hb':b'=true:=vg.2 hv;refine⟨_,2,?_,?_,tiny_none,fun h=> absurd h (by decide)⟩
   ·unfold F442 F166
    rw[vh,hb',ob,if_pos rfl,xx,ob,if_pos (by simp),jV hs.c.d,ob,xx,ob,if_pos (by simp; omega),xx,ob,if_neg (by simpa using hq),ob,if_neg (by decide)]
   ·unfold F443
    rw[d1,hb,ob,if_pos rfl,xy,ob,if_neg (by simpa using hq)]
 ·obtain⟨b,d1,d2⟩:=F38_tells hs
  have hb:b=false:=by cases b with|false=> rfl|true=> exact absurd (d2.1 rfl) hv
  obtain⟨b',vh,vg⟩:=km hs;have hb':b'=false:=by cases b' with|false=> rfl|true=> exact absurd (vg.1 rfl) hv
  refine⟨_,1,?_,?_,tiny_none,fun h=> absurd h (by decide)⟩
  ·unfold F442 F166
   rw[vh,hb',ob,if_neg wD,ob,if_neg (by decide)]
  ·unfold F443
   rw[d1,hb,ob,if_neg wD]
theorem flat_full{x:qe}{q:Int}(hx:zx x):∃y c,F23 x q=some ⟨y,c⟩∧F24 x q=some ⟨y,c⟩∧((c=0∧zp x∧(0≤q∧q≤5)∧y=zU x q)∨(c≠0∧y=⟨⟨0,[],[]⟩,[]⟩)):=by
 unfold F23 F24;obtain⟨b,d1,d2,d3⟩:=(F39_tells hx).same (F42_tells hx);rw[d1,d2,ob,ob];cases b with
 |false=> exact⟨_,_,if_neg wD,if_neg wD,.inr ⟨by decide,rfl⟩⟩
 |true=>
  have hv:=d3.1 rfl;have hdims:=hv.dims;rw[if_pos rfl,if_pos rfl,xy,xx,ob,ob];by_cases hq:(0:Int)≤q∧q≤5
  ·rw[if_pos (by simpa using hq),if_pos (by simpa using hq),F55_eq hx,F57_eq hx hv,ob,ob]
   have hlen:x.D.length < 4611686018427387904:=by have:=hx.d; omega
   have hfl:(flatL q x.D).length=x.D.length:=by simp[flatL]
   have hd:∀i,i < x.D.length→0≤x.D.getD i 0∧x.D.getD i 0≤8:=fun i hi=> hdims _ (qz hi 0);have hdl:=hx.d;obtain⟨t,h1,h2⟩:=qu (B:=F23_1_B x q) (D:=F23_1_D x q) x.D.length rfl hlen (fun i s=> s=((flatL q x.D).take i,x.P,x.D,x.M)) (fun t=> t=(flatL q x.D,x.P,x.D,x.M)) (s:=([],x.P,x.D,x.M)) (by simp) (by
    rintro i s hi rfl;left;refine⟨_,?_,rfl⟩;unfold F23_1_B;simp only;rw[F23_2_eq _ _ _ _ hi (hd i hi),ob,qJ (by simp; omega) (by simp; omega),ob,flatL_take hi]) (by
    rintro s rfl;refine⟨_,rfl,?_⟩;rw[←hfl,vH])
   obtain⟨u,k1,k2⟩:=qu (B:=F24_1_B x q) (D:=F24_1_D x q) x.D.length rfl hlen (fun i s=> s=(flatL q x.D).take i) (fun t=> t=flatL q x.D) (s:=[]) (by simp) (by
    rintro i s hi rfl;left;refine⟨_,?_,rfl⟩;unfold F24_1_B F58;simp only;rw[qk hi 0,ob,if_pos (hd i hi),ob,qJ (by simp; omega) (by simp; omega),ob,flatL_take hi]) (by
    rintro s rfl;refine⟨_,rfl,?_⟩;rw[←hfl,vH])
   rw[h1,k1,ob,ob,h2,k2];exact⟨_,_,rfl,rfl,.inl ⟨rfl,hv,hq,rfl⟩⟩
  ·exact⟨_,_,if_neg (by simpa using hq),if_neg (by simpa using hq),.inr ⟨by decide,rfl⟩⟩
theorem last_full{x:qc}(hs:qG x):∃r c,F325 x=some ⟨r,c⟩∧F147 x=some ⟨r,c⟩∧(c=0→qx x∧(0≤r∧r≤6)∧AllSame x r):=by
 obtain⟨b,d1,d2,d3⟩:=(F38_tells hs).same (km hs);unfold F325 F147;rw[d1,d2,ob,ob];cases b with
 |false=>
  rw[if_neg wD,if_neg wD];exact⟨_,_,rfl,rfl,fun h=> absurd h (by decide)⟩
 |true=>
  have h:=d3.1 rfl;have e1:(F162 x fun a b=> F161 x a b)=some (tab6 x.L.length (limN x)):=table_eq h fun n q hn hq=> lim_eq hs h hn hq;have h6:AllSame x 6:=fun n hn q hq=> six hs h hn hq;obtain⟨t,t1,t2,t3,t4⟩:=search (fun r hr=> spec_step hs h hr) h6;obtain⟨u,u1,u2,u3,u4⟩:=search (fun r hr=> impl_step hs h hr) h6;have e:t=u:=by
   rcases Int.lt_trichotomy t u with c|c|c
   ·exact absurd t3 (u4 t t2.1 c)
   ·exact c
   ·exact absurd u3 (t4 u u2.1 c)
  subst e;rw[if_pos rfl,if_pos rfl,t1,ob,e1,ob,u1,ob];exact⟨_,_,rfl,rfl,fun _=>⟨h,t2,t3⟩⟩
theorem flat_page2{c:qe}(hx:zx c)(V:zp c){L:Int}(hL:0≤L∧L≤5){n:Nat}(hn:n < c.D.length){q:Int}(hq:0≤q∧q≤5):pgN (zU c L) 1 n q=if q=L then sumI (fun t=> limN (zU c L) n t) 6 else 0:=by
 have hs:=flat_small hx V (L:=L);have h:=flat_valid V hL;have hl:(zU c L).L.length=c.D.length:=flat_len;have lvF:∀m,m < c.D.length→∀i,i < dm (zU c L) m→lv (zU c L) m i=L:=fun m hm i hi=> flat_lv hm hi;have e1:(1:Int) - 1=0:=rfl;obtain⟨K0,B0,z1, -,z2, -,zE⟩:=lim_total hs h (n:=n) (by omega);have z1':F98 c (n:Int)=some K0:=z1;have z2':F251 c (n:Int)=some B0:=z2;rw[zE];unfold pgN;rw[e1,show q+1 - 1=q by omega];by_cases c1:q < L
 ·rw[if_neg (by omega),zN_void hs h (by omega) (by omega) (by omega) fun _ i hi=> by rw[lvF n hn i hi]; exact c1,zN_void hs h (by omega) (by omega) (by omega) fun _ i hi=> by rw[lvF n hn i hi]; omega,zN_void hs h (by omega) (by omega) (by omega) fun k i hi=> by rw[lvF (n+1) (by omega) i hi]; exact c1,zN_void hs h (by omega) (by omega) (by omega) fun k i hi=> by rw[lvF (n+1) (by omega) i hi]; exact c1]
  rfl
 ·have full:∀m,m≤c.D.length→∀r t:Int, -10≤r→r≤10→ -10≤t→t≤10→L≤t→L≤t - r→zN (zU c L) r m t=if m < c.D.length then(dm (zU c L) m:Int)else 0:=fun m hm r t r0 r1 t0 t1 ht htr=> by
   by_cases cm:m < c.D.length
   ·rw[if_pos cm]
    exact zN_full hs h (by omega) (by omega) (by omega) (fun i hi=> by rw[lvF m cm i hi]; exact ht) fun n0 j hj=> by rw[lvF (m - 1) (by omega) j hj]; exact htr
   ·have:m=(zU c L).L.length:=by omega
    rw[if_neg cm,this,zN_top hs h (by omega) (by omega)]
  by_cases c2:q=L
  ·subst c2
   rw[if_pos rfl,zN_void hs h (r:=0) (n:=n) (q:=q - 1) (by omega) (by omega) (by omega) fun _ i hi=> by rw[lvF n hn i hi]; omega,full (n+1) (by omega) 0 q (by omega) (by omega) (by omega) (by omega) (by omega) (by omega)]
   -- cycles
   have cyc:∀m,m < c.D.length→∃K,F98 c (m:Int)=some K∧zN (zU c q) 1 m q=(K.length:Int):=fun m hm=> by
    obtain⟨K,k1,k2,k3⟩:=cyc_full hs h (n:=m) (by omega);obtain⟨N,a⟩:=zu hs h (n:=m) (by omega) (r:=1) (q:=q) (by omega) (by omega);have dA:1 < (zU c q).C.P:=by have:=V.p.range; show 1 < c.P; omega
    have e:N=K:=red_same dA a.red k2 fun v=>(a.sp v).trans ((⟨fun z=>⟨z.1,fun n0 j hj=> z.2.2 n0 j hj (by rw[lvF (m - 1) (by omega) j hj]; omega)⟩,fun z=>⟨z.1,fun i hi hlt=> absurd (lvF m hm i hi) (by omega),fun n0 j hj _=> z.2 n0 j hj⟩⟩:_↔_).trans (k3 v).symm);exact⟨K,k1,by rw[a.len,e]⟩
   obtain⟨K,k1,k2⟩:=cyc n hn;have ek0:K=K0:=by rw[k1]at z1'; exact wA z1'
   obtain⟨B',b1,b2⟩:=bnd_count hx V.wide hn;have eb:B'=B0:=by rw[b1]at z2'; exact wA z2'
   subst eb;rw[k2,ek0];have hdn:dm (zU c q) (n+1)=dc c (n+1):=rfl;by_cases cn:n+1 < c.D.length
   ·obtain⟨M,m1,m2⟩:=cyc (n+1) cn
    obtain⟨M',m4, -,m6⟩:=cyc_count hx V.wide cn;have em:M=M':=by rw[m1]at m4; exact wA m4
    rw[if_neg (by omega),vC]at m6;rw[if_pos cn,m2,em,hdn];omega
   ·have ht:n+1=(zU c q).L.length:=by omega
    have hrk:rkC c n=0:=by unfold rkC; rw[if_neg cn]
    rw[if_neg cn,ht,zN_top hs h (by omega) (by omega)];omega
  ·rw[if_neg c2,full n (by omega) 1 q (by omega) (by omega) (by omega) (by omega) (by omega) (by omega),full n (by omega) 0 (q - 1) (by omega) (by omega) (by omega) (by omega) (by omega) (by omega),full (n+1) (by omega) 0 q (by omega) (by omega) (by omega) (by omega) (by omega) (by omega),full (n+1) (by omega) 1 q (by omega) (by omega) (by omega) (by omega) (by omega) (by omega)]
   omega
theorem part_draw{code:List U8}(h:CodeOK code):∃x q,F441 code=some ⟨x,q⟩∧LooseF x:=by
 obtain⟨x,r,n,q,e,h1, -⟩:=with_ok h;unfold F441;rw[e,ob];exact⟨x,q,rfl,h1⟩
theorem flat_draw{code:List U8}(h:CodeOK code):∃x q,F445 code=some ⟨x,q⟩∧LooseC x:=by
 obtain⟨x,s,s',e1,e2,k2,k3⟩:=one_ok h;obtain⟨q,s2,e3, -⟩:=zC k2 7;unfold F445;rw[e1,ob,e2,ob];dsimp only;rw[e3,ob];exact⟨x,q,rfl,k3⟩
theorem last_draw{code:List U8}(h:CodeOK code):∃x,F446 code=some x∧LooseF x:=by
 obtain⟨s,e1,k1⟩:=from_ok h.l h.b;obtain⟨x,s1,e2,k2,k3⟩:=spoil2_ok k1;unfold F446;rw[e1,ob,e2,ob];exact⟨x,rfl,k3⟩
theorem own_part{x y:qc}(hx:LooseF x){q c:Int}(h:c=0→qx x∧y=ji x q):F456_93 x.C.P x.C.D x.C.M x.L y.C.P y.C.D y.C.M y.L c=some true:=by
 unfold F456_93;by_cases hc:c=0
 ·obtain⟨hv,rfl⟩:=h hc
  have hs:=hx.small;have pv:=part_valid hs hv (q:=q);have ps:qG (ji x q):=by
   have t:=tiny_valid pv;refine⟨⟨by have:=t.d; omega,by have:=t.m; omega,fun m hm=>?_⟩,by have:=t.l; omega,fun r hr=> by have:=t.v r hr; omega⟩;have:=t.r m hm;exact⟨by omega,fun r hr=> by have:=this.2 r hr; omega⟩
  obtain⟨b,e1,e2⟩:=km ps;have hb:b=true:=e2.2 pv;have vf:F41 ⟨⟨(ji x q).C.P,(ji x q).C.D,(ji x q).C.M⟩,(ji x q).L⟩=some b:=e1;rw[if_pos hc,vf,ob,if_pos hb,part_len,decide_eq_true rfl]
 ·rw[if_neg hc]
theorem last_part{x y:qc}{c:Int}(hE:F456_93 x.C.P x.C.D x.C.M x.L y.C.P y.C.D y.C.M y.L c=some true){z:qc}(hz:LooseF z){r d:Int}(h:d=0→qx z∧(0≤r∧r≤6)∧AllSame z r):
  F456_92 x.C.P x.C.D x.C.M x.L y.C.P y.C.D y.C.M y.L c z.C.P z.C.D z.C.M z.L r d=some true:=by
 unfold F456_92;by_cases hd:d=0
 ·obtain⟨hv,hr,hA⟩:=h hd
  have hs:=hz.small;have hzl:=hz.l;have e1:F148 ⟨⟨z.C.P,z.C.D,z.C.M⟩,z.L⟩ r=_:=pt_fine hs hv (r:=r) (by omega);have e2:F148 ⟨⟨z.C.P,z.C.D,z.C.M⟩,z.L⟩ (r+1)=_:=pt_fine hs hv (r:=r+1) (by omega);have et:tab6 z.L.length (fun n q=> pgN z (r+1) n (q:Int))=tab6 z.L.length (fun n q=> pgN z r n (q:Int)):=tab6_eq.2 fun n hn q hq=> by
   have:=last_next hs hv hr hA hn hq
   rwa[numN_pg hs hv hn hq (by omega),numN_pg hs hv hn hq (by omega)]at this
  obtain⟨s1,s2⟩:=tab6_small (L:=z.L.length) (by omega) (fun n q=> pgN z r n (q:Int));rw[if_pos hd,e1,ob,qn (by omega) (by omega),ob,e2,ob,if_neg (by omega),if_pos rfl,if_pos rfl];dsimp only;rw[et,F160_same s1 s2,ob,if_pos rfl];exact hE
 ·rw[if_neg hd]; exact hE
theorem flat_part{x y:qc}{c:Int}{z:qc}{r d:Int}(hE:F456_92 x.C.P x.C.D x.C.M x.L y.C.P y.C.D y.C.M y.L c z.C.P z.C.D z.C.M z.L r d=some true)
  {u:qe} (hu:LooseC u) {L b:Int} {f:qc} (h:(b=0∧zp u∧(0≤L∧L≤5)∧f=zU u L)∨(b≠0∧f=⟨⟨0,[],[]⟩,[]⟩)):
  F456_91 x.C.P x.C.D x.C.M x.L y.C.P y.C.D y.C.M y.L c u.P u.D u.M L f.C.P f.C.D f.C.M f.L b z.C.P z.C.D z.C.M z.L r d=some true:=by
 unfold F456_91;rcases h with⟨hb,V,hL,rfl⟩|⟨hb,rfl⟩
 ·have hs:=flat_small hu.s V (L:=L)
  have hv:=flat_valid V hL;have hl:(zU u L).L.length=u.D.length:=flat_len;have hdl:=V.dl;have e1:F440 ⟨u.P,u.D,u.M⟩=some ⟨(List.range (zU u L).L.length).map fun n=> sumI (fun q=> limN (zU u L) n q) 6,true⟩:=by
   unfold F440;have e:F149 ⟨u.P,u.D,u.M⟩=_:=hom_all hs hv;rw[e,ob]; rfl
  have e2:F148 ⟨⟨(zU u L).C.P,(zU u L).C.D,(zU u L).C.M⟩,(zU u L).L⟩ 1=_:=pt_fine hs hv (r:=1) (by omega);rw[if_pos hb,e1,ob,e2,ob,if_pos rfl,if_pos rfl];dsimp only;rw[tab6_len,if_pos (by simp),eq_loop' (by omega) (fun n hn=> by
   have hn':n < u.D.length:=by omega
   obtain⟨L',rfl⟩:∃L':Nat,L=L':=⟨L.toNat,by omega⟩;have hg:∀q:Nat,q < 6→pgN (zU u (L':Int)) 1 n (q:Int)=if q=L' then sumI (fun t=> limN (zU u (L':Int)) n t) 6 else 0:=fun q hq=> by
    rw[flat_page2 hu.s V hL hn' (q:=(q:Int)) (by omega)];by_cases c:q=L'
    ·rw[if_pos c,if_pos (by omega)]
    ·rw[if_neg c,if_neg (by omega)]
   have rng:=fun(q:Nat) (hq:q < 6)=> pgN_rng hs hv (n:=n) (by omega) (r:=1) (q:=(q:Int)) (by omega) (by omega);have hsum:sumI (fun q=> pgN (zU u (L':Int)) 1 n (q:Int)) 6=sumI (fun t=> limN (zU u (L':Int)) n t) 6:=by
    have one:∀ (v:Int) (m:Nat),sumI (fun q=> if q=L' then v else 0) m=if L' < m then v else 0:=fun v m=> by
     induction m with
     |zero=> simp[sumI]
     |succ m ih=>
      simp only[sumI];rw[ih];by_cases a:m=L'
      ·rw[if_pos a,if_neg (by omega),if_pos (by omega)]; omega
      ·rw[if_neg a]
       by_cases a2:L' < m
       ·rw[if_pos a2,if_pos (by omega)]; omega
       ·rw[if_neg a2,if_neg (by omega)]; omega
    rw[zw fun q hq=> hg q hq,one,if_pos (by omega)]
   have hat:getI ((List.range 6).map fun q:Nat=> pgN (zU u (L':Int)) 1 n (q:Int)) (L':Int)=some (sumI (fun t=> limN (zU u (L':Int)) n t) 6):=by
    rw[qk (by simp; omega) 0,jT (by omega),hg L' (by omega),if_pos rfl]
   unfold F456_1_B;dsimp only;rw[tab6_row hn,ob,hat,ob,qk (by simpa using hn) 0,ob,jT hn,if_pos rfl,row_sum (fun q hq=> by have:=rng q hq; omega),ob,if_pos hsum]) fun i=> rfl,ob]
  exact hE
 ·rw[if_neg hb]; exact hE
theorem law74{code:List U8}(hl:code.length≤9223372036854775807)(hb:∀b∈code,0≤b.val∧b.val≤255):F456 code=some true:=by
 unfold F456 F140;rw[ob];by_cases cl:4096 < (code.length:Int)
 ·rw[if_pos (by simpa using cl)]
 rw[if_neg (by simpa using cl)];have h:CodeOK code:=⟨by omega,hb⟩;obtain⟨x,q,e1,hx⟩:=part_draw h;obtain⟨y,c,p1,p2,p3,p4⟩:=part_same hx.small q;have h3:=own_part (q:=q) hx p4;obtain⟨z,e3,hz⟩:=last_draw h;obtain⟨r,d,r1,r2,r3⟩:=last_full hz.small;have h2:=last_part h3 hz r3;obtain⟨u,L,e2,hu⟩:=flat_draw h;obtain⟨f,b,f1,f2,f3⟩:=flat_full (q:=L) hu.s;have h1:=flat_part h2 hu f3;have ft:TinyF f:=by
  rcases f3 with⟨-,V,hL,rfl⟩|⟨-,rfl⟩
  ·exact tiny_valid (flat_valid V hL)
  ·exact tiny_none
 obtain⟨v,v1,v2,v3⟩:=(F38_tells hx.small).same (km hx.small);have v4:F444 x=some v:=by unfold F444; rw[v1,ob]
 rw[e1,ob];dsimp only;rw[p1,ob,p2,ob,if_pos rfl,F146_same p3,ob,if_pos rfl,v2,ob,v4,ob,if_pos (by cases v <;> rfl),e2,ob];dsimp only;rw[f2,ob,f1,ob,if_pos rfl,F146_same ft,ob,if_pos rfl,e3,ob,r2,ob,r1,ob,if_pos rfl,if_pos rfl];exact h1
theorem law75{code:List U8}(h:LongL LongU code):F456 code=some true:=law74 h.1 h.2
end Rv
