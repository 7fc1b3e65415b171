/- The plain law: what the typed functions answer: part 2 -/
import Derived.Test.YtoejjfefmcbkpaaGreatHmq0
namespace Rv
set_option linter.unusedVariables false
set_option linter.unusedSimpArgs false
set_option maxRecDepth 10000
theorem forI_inv{σ τ:Type}{B:Int→σ→Option (σ⊕τ)}{D:Int→σ→Option τ}(Inv:Nat→σ→Prop)(Q:τ→Prop)(n:Nat):
  ∀ (k i:Nat) (s:σ),i+k=n→Inv i s→(∀i s,i < n→Inv i s→(∃s',B i s=some (.inl s')∧Inv (i+1) s')∨∃t,B i s=some (.inr t)∧Q t)→(∀s,Inv n s→∃t,D n s=some t∧Q t)→∃t,forI B D k i s=some t∧Q t:=by
 intro k;induction k with
 |zero=>
  intro i s hk hI hb hd;have:i=n:=by omega
  subst this;exact hd s hI
 |succ k ih=>
  intro i s hk hI hb hd;simp only[forI];rcases hb i s (by omega) hI with⟨s',h1,h2⟩|⟨t,h1,h2⟩
  ·rw[h1]
   have:=ih (i+1) s' (by omega) h2 hb hd;simpa using this
  ·rw[h1]; exact⟨t,rfl,h2⟩
theorem qy{σ τ:Type}{B:Int→σ→Option (σ⊕τ)}{D:Int→σ→Option τ}{hi:Int}(n:Nat)(hn:hi=n)(hs:n < 4611686018427387904)(Inv:Nat→σ→Prop)(Q:τ→Prop){s:σ}(h0:Inv 0 s)
  (hb:∀ (i:Nat) s,i < n→Inv i s→(∃s',B i s=some (.inl s')∧Inv (i+1) s')∨∃t,B i s=some (.inr t)∧Q t) (hd:∀s,Inv n s→∃t,D n s=some t∧Q t):∃t,forR 0 hi B D s=some t∧Q t:=by
 subst hn;unfold forR;rw[if_pos (by omega)];have e:((n:Int) - 0).toNat=n:=by omega
 rw[e];exact forI_inv Inv Q n n 0 s (by omega) h0 hb hd
theorem forR_from{σ τ:Type}{B:Int→σ→Option (σ⊕τ)}{D:Int→σ→Option τ}{lo hi:Int}(l n:Nat)(hl:lo=l)(hn:hi=n)(hln:l≤n)(hs:n < 4611686018427387904)(Inv:Nat→σ→Prop)(Q:τ→Prop){s:σ}(h0:Inv l s)
  (hb:∀ (i:Nat) s,i < n→Inv i s→(∃s',B i s=some (.inl s')∧Inv (i+1) s')∨∃t,B i s=some (.inr t)∧Q t) (hd:∀s,Inv n s→∃t,D n s=some t∧Q t):∃t,forR lo hi B D s=some t∧Q t:=by
 subst hn; subst hl;unfold forR;rw[if_pos (by omega)];have e:((n:Int) - (l:Int)).toNat=n - l:=by omega
 rw[e];exact forI_inv Inv Q n (n - l) l s (by omega) h0 hb hd
theorem qQ{σ τ:Type}{S:σ→Option (σ⊕τ)}(μ:σ→Nat)(Inv:σ→Prop)(Q:τ→Prop){s:σ}(h0:Inv s)
  (hb:∀s,Inv s→(∃s',S s=some (.inl s')∧Inv s'∧μ s' < μ s)∨∃t,S s=some (.inr t)∧Q t):∃t,qA S s=some t∧Q t:=by
 suffices∀k s,μ s≤k→Inv s→∃t,qA S s=some t∧Q t from this _ s (wE _) h0
 intro k;induction k with
 |zero=>
  intro s hk hI;rcases hb s hI with⟨s',h1,h2,h3⟩|⟨t,h1,h2⟩
  ·omega
  ·exact⟨t,loopW_eq.2 (.inr h1),h2⟩
 |succ k ih=>
  intro s hk hI;rcases hb s hI with⟨s',h1,h2,h3⟩|⟨t,h1,h2⟩
  ·obtain⟨t,h4,h5⟩:=ih s' (by omega) h2
   exact⟨t,loopW_eq.2 (.inl ⟨s',h1,h4⟩),h5⟩
  ·exact⟨t,loopW_eq.2 (.inr h1),h2⟩
theorem qk{α:Type}{l:List α}{i:Nat}(h:i < l.length):getI l (i:Int)=some l[i]:=by
 unfold getI;rw[if_pos (by omega)];simp[h]
theorem qh{α:Type}{l:List α}{i:Nat}(h:i < l.length)(d:α):getI l (i:Int)=some (l.getD i d):=by
 rw[qk h]; simp[h]
theorem ql{n:Int}(h0: -9223372036854775808≤n)(h1:n < 9223372036854775808):chk n=some n:=by
 unfold chk; rw[if_pos ⟨h0,h1⟩]
theorem zg{α:Type}{l:List α}{i:Nat}(h:i < l.length)(y:α):setI l (i:Int) y=some (l.set i y):=by
 unfold setI;rw[if_pos (by omega),vU]
theorem jR{a b:Int}(h:b≠0):remI a b=some (a.tmod b):=by unfold remI; rw[if_neg h]
theorem mkL_ok{α:Type}{b:Nat}{n:Int}{z:α}(k:Nat)(hn:n=k)(h:k*b≤1099511627776)(h2:k≤1099511627776):mkL b n z=some (List.replicate k z):=by
 subst hn;unfold mkL;rw[if_pos ⟨by omega,by omega,by omega⟩,vU]
theorem qU{α:Type}{b:Nat}{l l':List α}(h:(l.length+l'.length)*b≤1099511627776)(h2:l.length+l'.length≤1099511627776):app b l l'=some (l++l'):=by
 unfold app; rw[if_pos ⟨h,h2⟩]
def zZ(o:Option Bool)(P:Prop):Prop:=∃b,o=some b∧(b=true↔P)
theorem zZ.of_true{o:Option Bool}{P:Prop}(h:o=some true)(p:P):zZ o P:=⟨true,h,by simp[p]⟩
theorem zZ.of_false{o:Option Bool}{P:Prop}(h:o=some false)(p:¬P):zZ o P:=⟨false,h,by simp[p]⟩
theorem zZ.iff{o:Option Bool}{P Q:Prop}(h:zZ o P)(e:P↔Q):zZ o Q:=by
 obtain⟨b,h1,h2⟩:=h; exact⟨b,h1,h2.trans e⟩
theorem zZ.same{o o':Option Bool}{P:Prop}(h:zZ o P)(h':zZ o' P):∃b,o=some b∧o'=some b∧(b=true↔P):=by
 obtain⟨b,h1,h2⟩:=h;obtain⟨b',h3,h4⟩:=h';have:b=b':=by rw[uD]; exact h2.trans h4.symm
 exact⟨b,h1,by rw[this]; exact h3,h2⟩
theorem zZ.case{o:Option Bool}{P:Prop}(h:zZ o P):(o=some true∧P)∨(o=some false∧¬P):=by
 obtain⟨b,h1,h2⟩:=h;cases b with
 |true=> exact .inl ⟨h1,h2.1 rfl⟩
 |false=> exact .inr ⟨h1,fun p=> by have:=h2.2 p; cases this⟩
def IsP(p:Int):Prop:=p=2∨p=3∨p=5∨p=7
theorem IsP.range{p:Int}(h:IsP p):2≤p∧p≤7:=by unfold IsP at h; omega
def RowOK(p w:Int)(row:L1):Prop:=(row.length:Int)=w∧∀x∈row,0≤x∧x < p
def jg(p c w:Int)(m:L2):Prop:=(m.length:Int)=c∧∀row∈m,RowOK p w row
theorem F54_eq(n lo hi:Int):F54 n lo hi=some (decide (lo≤n∧n≤hi)):=by
 unfold F54; by_cases h:lo≤n <;> simp[h]
theorem F56_eq(n lo hi:Int):F56 n lo hi=some (decide (lo≤n∧n≤hi)):=by
 unfold F56; by_cases h:lo≤n <;> simp[h]
theorem F78_tells(p:Int):zZ (F78 p) (IsP p):=by
 unfold F78 IsP;split
 ·exact .of_true rfl (by omega)
 split
 ·exact .of_true rfl (by omega)
 split
 ·exact .of_true rfl (by omega)
 ·exact⟨_,rfl,by simp; omega⟩
theorem F67_tells(p:Int):zZ (F67 p) (IsP p):=by
 unfold F67 IsP;split
 ·exact .of_true rfl (by omega)
 split
 ·exact .of_true rfl (by omega)
 split
 ·exact .of_true rfl (by omega)
 ·exact⟨_,rfl,by simp; omega⟩
theorem F79_2{p w:Int}{m:L2}(hp:2≤p∧p≤7){i:Nat}(hi:i < m.length)(hs:m[i].length≤1099511627776):
  ∃t,qA (F79_2_S p m w i) 0=some t∧((t= .inl ()∧∀x∈m[i],0≤x∧x < p)∨(t= .inr false∧¬∀x∈m[i],0≤x∧x < p)):=by
 refine qQ (fun j:Int=>(m[i].length - j).toNat) (fun j=>∃n:Nat,j=n∧n≤m[i].length∧∀k (hk:k < n) (h2:k < m[i].length),0≤m[i][k]∧m[i][k] < p) _ ⟨0,rfl,by omega,fun k hk=> by omega⟩ ?_;rintro _ ⟨n,rfl,hn,hall⟩;unfold F79_2_S;simp only[qk hi,ob];by_cases hlt:(n:Int) < m[i].length
 ·have hnl:n < m[i].length:=by omega
  simp only[if_pos hlt,qk hnl,ob,ql (show(-9223372036854775808:Int)≤p - 1 by omega) (show p - 1 < 9223372036854775808 by omega),F54_eq];by_cases hx:0≤m[i][n]∧m[i][n]≤p - 1
  ·left
   refine⟨n+1,?_,⟨n+1,rfl,hnl,fun k hk h2=>?_⟩,by omega⟩
   ·simp only[hx,and_self,decide_true,if_true,ql (show(-9223372036854775808:Int)≤(n:Int)+1 by omega) (show(n:Int)+1 < 9223372036854775808 by omega),ob]
   ·by_cases e:k=n
    ·subst e; omega
    ·exact hall k (by omega) h2
  ·right
   refine⟨.inr false,?_,.inr ⟨rfl,fun ha=> hx ?_⟩⟩
   ·simp[hx]
   ·have:=ha _ (wC hnl); omega
 ·right
  refine⟨.inl (),by simp only[if_neg hlt],.inl ⟨rfl,fun x hx=>?_⟩⟩;obtain⟨k,hk,rfl⟩:=wK hx;exact hall k (by omega) hk
theorem F79_tells{p c w:Int}{m:L2}(hp:2≤p∧p≤7)(hm:m.length≤1099511627776)(hs:∀r∈m,r.length≤1099511627776):zZ (F79 p m c w) (jg p c w m):=by
 unfold F79;by_cases hc:(m.length:Int)=c
 case neg=> rw[if_neg hc]; exact .of_false rfl fun h=> hc h.1
 rw[if_pos hc];obtain⟨t,h1,h2⟩:=qy (B:=F79_1_B p m w) (D:=F79_1_D p m w) (hi:=m.length) m.length rfl (by omega) (fun i _=>∀k (hk:k < i) (h2:k < m.length),RowOK p w m[k]) (fun t=>(t= .inl ()∧∀r∈m,RowOK p w r)∨(t= .inr false∧¬∀r∈m,RowOK p w r)) (s:=()) (fun k hk=> by omega) (fun i _ hi hI=> by
  unfold F79_1_B;simp only[qk hi,ob];by_cases hw:(m[i].length:Int)=w
  ·rw[if_pos hw]
   obtain⟨t,h1,h2⟩:=F79_2 (w:=w) hp hi (hs _ (wC hi));rw[h1];rcases h2 with⟨rfl,h2⟩|⟨rfl,h2⟩
   ·left
    refine⟨(),rfl,fun k hk h3=>?_⟩;by_cases e:k=i
    ·subst e; exact⟨hw,h2⟩
    ·exact hI k (by omega) h3
   ·right
    exact⟨_,rfl,.inr ⟨rfl,fun ha=> h2 (ha _ (wC hi)).2⟩⟩
  ·rw[if_neg hw]
   right;exact⟨_,rfl,.inr ⟨rfl,fun ha=> hw (ha _ (wC hi)).1⟩⟩) (fun _ hI=>⟨.inl (),rfl,.inl ⟨rfl,fun r hr=> by
    obtain⟨k,hk,rfl⟩:=wK hr;exact hI k hk hk⟩⟩)
 rw[h1];rcases h2 with⟨rfl,h2⟩|⟨rfl,h2⟩
 ·exact .of_true rfl ⟨hc,h2⟩
 ·exact .of_false rfl fun h=> h2 h.2
def addRow(p x:Int)(out row:L1):L1:=List.zipWith (fun o y=>(o+x*y).tmod p) out row
def linN(p:Int)(n:Nat)(v:L1)(m:L2):Nat→L1
 |0=> List.replicate n 0
 |i+1=> addRow p (v.getD i 0) (linN p n v m i) (m.getD i [])
def lin(p:Int)(n:Nat)(v:L1)(m:L2):L1:=linN p n v m v.length
structure LinOK (p:Int) (n:Nat) (v:L1) (m:L2):Prop where
 hp:2≤p∧p≤7
 hv:∀x∈v,0≤x∧x < p
 hl:v.length≤m.length
 hr:∀l∈m,l.length=n∧∀y∈l,0≤y∧y < p
 hn:n≤1048576
 hvl:v.length≤1048576
theorem small_mul{p x y o:Int}(hp:2≤p∧p≤7)(hx:0≤x∧x < p)(hy:0≤y∧y < p)(ho:0≤o∧o < p):
  chk (x*y)=some (x*y)∧chk (o+x*y)=some (o+x*y)∧0≤(o+x*y).tmod p∧(o+x*y).tmod p < p:=by
 have h1:0≤x*y:=Int.mul_nonneg hx.1 hy.1;have h2:x*y≤6*6:=Int.mul_le_mul (by omega) (by omega) hy.1 (by omega);exact⟨ql (by omega) (by omega),ql (by omega) (by omega),Int.tmod_nonneg _ (by omega),Int.tmod_lt_of_pos _ (by omega)⟩
theorem jN{p x:Int}{out row:L1}(h:row.length=out.length):(addRow p x out row).length=out.length:=by simp[addRow,h]
theorem addRow_ok{p x:Int}(hp:2≤p∧p≤7)(hx:0≤x∧x < p){out row:L1}(ho:∀o∈out,0≤o∧o < p)(hy:∀y∈row,0≤y∧y < p):∀o∈addRow p x out row,0≤o∧o < p:=by
 intro o hm;unfold addRow at hm;obtain⟨i,hi,rfl⟩:=wK hm;simp at hi ⊢;exact(small_mul hp hx (hy _ (wC (by omega))) (ho _ (wC (by omega)))).2.2
theorem linN_ok{p:Int}{n:Nat}{v:L1}{m:L2}(H:LinOK p n v m):∀i,i≤v.length→(linN p n v m i).length=n∧∀o∈linN p n v m i,0≤o∧o < p:=by
 intro i;induction i with
 |zero=> intro _; refine⟨by simp[linN],fun o ho=>?_⟩; simp[linN]at ho; obtain⟨_,rfl⟩:=ho; have:=H.hp; omega
 |succ i ih=>
  intro hi;obtain⟨h1,h2⟩:=ih (by omega);have e1:v.getD i 0=v[i]:=by simp[show i < v.length by omega]
  have hm:i < m.length:=by have:=H.hl; omega
  have e2:m.getD i []=m[i]:=by simp[hm]
  have hr:=H.hr _ (wC hm);simp only[linN,e1,e2];exact⟨by rw[jN (by rw[hr.1,h1]),h1],addRow_ok H.hp (H.hv _ (wC _)) h2 hr.2⟩
def upTo(p x:Int)(out row:L1)(k:Nat):L1:=(addRow p x out row).take k++out.drop k
theorem upTo_len{p x:Int}{out row:L1}(h:row.length=out.length)(k:Nat)(hk:k≤out.length):(upTo p x out row k).length=out.length:=by
 simp[upTo,jN h]; omega
theorem upTo_at{p x:Int}{out row:L1}(h:row.length=out.length){k:Nat}(hk:k < out.length)(h2:k < (upTo p x out row k).length):(upTo p x out row k)[k]=out[k]:=by
 have e:(upTo p x out row k)[k]? =some out[k]:=by
  unfold upTo;rw[gI (by simp[jN h]; omega)];simp[jN h,yZ (Nat.le_of_lt hk),hk]
 rw[gB h2]at e;exact wA e
theorem upTo_set{p x:Int}{out row:L1}(h:row.length=out.length){k:Nat}(hk:k < out.length):
  (upTo p x out row k).set k ((out[k]+x*(row[k]'(by omega))).tmod p)=upTo p x out row (k+1):=by
 have hl:=jN (p:=p) (x:=x) h;unfold upTo;rw[List.set_append_right _ _ (by simp[hl]; omega),List.take_succ_eq_append_getElem (by omega:k < (addRow p x out row).length)];have e1:((addRow p x out row).take k).length=k:=by simp[hl]; omega
 rw[e1,uF];simp[addRow];rw[yP hk];rfl
theorem upTo_zero{p x:Int}{out row:L1}:upTo p x out row 0=out:=by simp[upTo]
theorem upTo_all{p x:Int}{out row:L1}(h:row.length=out.length):upTo p x out row out.length=addRow p x out row:=by
 have hl:=jN (p:=p) (x:=x) h;unfold upTo;rw[wT (by omega),List.drop_of_length_le (by omega),uC]
theorem F80_eq{p:Int}{n:Nat}{v:L1}{m:L2}(H:LinOK p n v m){w:Int}(hw:w=n):F80 p m v w=some (lin p n v m):=by
 have hn:=H.hn;have hvl:=H.hvl;have hlm:=H.hl;unfold F80;rw[mkL_ok n hw (by omega) (by omega),ob];obtain⟨t,h1,rfl⟩:=qy (B:=F80_1_B p m v) (D:=F80_1_D p m v) (hi:=v.length) v.length rfl (by omega) (fun i s=> s=linN p n v m i) (fun t=> t=lin p n v m) (s:=List.replicate n 0) rfl (fun i s hi hI=> by
  subst hI;left;obtain⟨q1,q2⟩:=linN_ok H i (by omega);have hm:i < m.length:=by omega
  obtain⟨r1,r2⟩:=H.hr _ (wC hm);have hx:=H.hv _ (wC hi);have e1:v.getD i 0=v[i]:=by simp[hi]
  have e2:m.getD i []=m[i]:=by simp[hm]
  refine⟨_,?_,rfl⟩;unfold F80_1_B;have hlen:m[i].length=(linN p n v m i).length:=by omega
  obtain⟨t,h1,rfl⟩:=qQ (S:=F80_2_S p m v i) (fun s=>(n - s.2).toNat) (fun s=>∃k:Nat,k≤n∧s=(upTo p v[i] (linN p n v m i) m[i] k,(k:Int))) (fun t=> t=linN p n v m (i+1)) (s:=(linN p n v m i,0)) ⟨0,by omega,by rw[upTo_zero]; rfl⟩ (by
   rintro _ ⟨k,hk,rfl⟩;unfold F80_2_S;have hul:=upTo_len (p:=p) (x:=v[i]) hlen k (by omega);simp only;by_cases hlt:(k:Int) < (upTo p v[i] (linN p n v m i) m[i] k).length
   ·rw[if_pos hlt]
    have hk1:k < (upTo p v[i] (linN p n v m i) m[i] k).length:=by omega
    have hk2:k < (linN p n v m i).length:=by omega
    have dk:k < m[i].length:=by omega
    obtain⟨s1,s2,s3,s4⟩:=small_mul H.hp hx (r2 _ (wC dk)) (q2 _ (wC hk2));have aM:p≠0:=by have:=H.hp; omega
    left;refine⟨(upTo p v[i] (linN p n v m i) m[i] (k+1),((k+1:Nat):Int)),?_,⟨k+1,by omega,rfl⟩,by simp only; omega⟩;simp only[qk hk1,upTo_at hlen hk2 hk1,qk hi,qk hm,qk dk,ob,s1,s2,jR aM,zg hk1,upTo_set hlen hk2,ql (show(-9223372036854775808:Int)≤(k:Int)+1 by omega) (show(k:Int)+1 < 9223372036854775808 by omega)];rfl
   ·rw[if_neg hlt]
    right;have hkn:k=(linN p n v m i).length:=by omega
    refine⟨_,rfl,?_⟩;rw[hkn,upTo_all hlen];simp only[linN,e1,e2])
  rw[h1];rfl) (fun s hI=>⟨_,rfl,hI⟩)
 rw[h1];rfl
theorem F119_2_eq{p:Int}{n:Nat}{v:L1}{m:L2}(H:LinOK p n v m){i:Nat}(hi:i < v.length)(hm:i < m.length):
  forR 0 (m[i].length:Int) (F119_2_B p v m i v[i] m[i]) (F119_2_D p v m i v[i] m[i]) (linN p n v m i)=some (linN p n v m (i+1)):=by
 have hn:=H.hn;obtain⟨q1,q2⟩:=linN_ok H i (by omega);obtain⟨r1,r2⟩:=H.hr _ (wC hm);have hx:=H.hv _ (wC hi);have e1:v.getD i 0=v[i]:=by simp[hi]
 have e2:m.getD i []=m[i]:=by simp[hm]
 have hlen:m[i].length=(linN p n v m i).length:=by omega
 have aM:p≠0:=by have:=H.hp; omega
 obtain⟨t,h1,rfl⟩:=qy (B:=F119_2_B p v m i v[i] m[i]) (D:=F119_2_D p v m i v[i] m[i]) (hi:=m[i].length) m[i].length rfl (by omega) (fun k s=> s=upTo p v[i] (linN p n v m i) m[i] k) (fun t=> t=linN p n v m (i+1)) (s:=linN p n v m i) upTo_zero.symm (by
  intro k s hk hI;subst hI;left;have hul:=upTo_len (p:=p) (x:=v[i]) hlen k (by omega);have hk1:k < (upTo p v[i] (linN p n v m i) m[i] k).length:=by omega
  have hk2:k < (linN p n v m i).length:=by omega
  obtain⟨s1,s2,s3,s4⟩:=small_mul H.hp hx (r2 _ (wC hk)) (q2 _ (wC hk2));refine⟨_,?_,rfl⟩;unfold F119_2_B;simp only[qk hk,qk hk1,upTo_at hlen hk2 hk1,ob,s1,s2,jR aM,zg hk1,upTo_set hlen hk2]) (by
  intro s hI;refine⟨s,rfl,?_⟩;rw[hI,hlen,upTo_all hlen];simp only[linN,e1,e2])
 exact h1
theorem F119_1_eq{p:Int}{n:Nat}{v:L1}{m:L2}(H:LinOK p n v m)(i:Nat)(hi:i < v.length):F119_1_B p v m (i:Int) (linN p n v m i)=some (.inl (linN p n v m (i+1))):=by
 have hlm:=H.hl;have hm:i < m.length:=by omega
 unfold F119_1_B;rw[qk hi,ob,qk hm,ob,F119_2_eq H hi hm,ob]
theorem F119_eq{p:Int}{n:Nat}{v:L1}{m:L2}(H:LinOK p n v m){w:Int}(hw:w=n):F119 p w v m=some (lin p n v m):=by
 have hn:=H.hn;have hvl:=H.hvl;have hs:v.length < 4611686018427387904:=by omega
 unfold F119;rw[mkL_ok n hw (by omega) (by omega),ob];obtain⟨t,h1,rfl⟩:=qy (B:=F119_1_B p v m) (D:=F119_1_D p v m) (hi:=v.length) v.length rfl hs (fun i s=> s=linN p n v m i) (fun t=> t=lin p n v m) (s:=List.replicate n 0) rfl (by
  intro i s hi hI;subst hI;left;exact⟨_,F119_1_eq H i hi,rfl⟩) (fun s hI=>⟨s,by unfold F119_1_D; rfl,hI⟩)
 rw[h1,ob]
theorem F115_eq{l:L1}{f:Int→Option Bool}(P:Int→Bool)(hl:l.length≤1099511627776)(hf:∀x∈l,f x=some (P x)):∃i:Int,F115 l f=some i∧(0≤i↔∃x∈l,P x=true):=by
 unfold F115;have hs:l.length < 4611686018427387904:=by omega
 obtain⟨t,h1,h2⟩:=qy (B:=xU l f) (D:=F115_1_D l f) (hi:=l.length) l.length rfl hs (fun i _=>∀k (hk:k < i) (h2:k < l.length),P l[k]=false) (fun t=>(t= .inl ()∧∀x∈l,P x=false)∨∃i:Nat,t= .inr (i:Int)∧∃x∈l,P x=true) (s:=()) (fun k hk=> by omega) (by
  intro i _ hi hI;unfold xU;rw[qk hi,ob,hf _ (wC hi),ob];cases hp:P l[i]with
  |true=> right; exact⟨_,rfl,.inr ⟨i,rfl,_,wC hi,hp⟩⟩
  |false=>
   left;refine⟨(),rfl,fun k hk h2=>?_⟩;by_cases e:k=i
   ·subst e; exact hp
   ·exact hI k (by omega) h2) (by
  intro _ hI;refine⟨.inl (),rfl,.inl ⟨rfl,fun x hx=>?_⟩⟩;obtain⟨k,hk,rfl⟩:=wK hx;exact hI k hk hk)
 rw[h1];rcases h2 with⟨rfl,h2⟩|⟨i,rfl,h2⟩
 ·exact⟨-1,rfl,⟨fun h=> by omega,fun⟨x,hx,hp⟩=> by rw[h2 x hx]at hp; cases hp⟩⟩
 ·exact⟨i,rfl,⟨fun _=> h2,fun _=> Int.natCast_nonneg i⟩⟩
theorem F82_eq{l:L1}{f:Int→Option Bool}(P:Int→Bool)(hl:l.length≤1099511627776)(hf:∀x∈l,f x=some (P x)):F82 l f=some (l.any P):=by
 obtain⟨i,h1,h2⟩:=F115_eq P hl hf;unfold F82;rw[h1,ob];have:decide (0≤i)=l.any P:=by
  rw[uD];simp only[decide_eq_true_eq,vS];exact h2
 rw[this]
theorem F128_eq{l:L2}{f:L1→Option Bool}(P:L1→Bool)(hl:l.length≤1099511627776)(hf:∀x∈l,f x=some (P x)):∃i:Int,F128 l f=some i∧(0≤i↔∃x∈l,P x=true):=by
 unfold F128;have hs:l.length < 4611686018427387904:=by omega
 obtain⟨t,h1,h2⟩:=qy (B:=xS l f) (D:=F128_1_D l f) (hi:=l.length) l.length rfl hs (fun i _=>∀k (hk:k < i) (h2:k < l.length),P l[k]=false) (fun t=>(t= .inl ()∧∀x∈l,P x=false)∨∃i:Nat,t= .inr (i:Int)∧∃x∈l,P x=true) (s:=()) (fun k hk=> by omega) (by
  intro i _ hi hI;unfold xS;rw[qk hi,ob,hf _ (wC hi),ob];cases hp:P l[i]with
  |true=> right; exact⟨_,rfl,.inr ⟨i,rfl,_,wC hi,hp⟩⟩
  |false=>
   left;refine⟨(),rfl,fun k hk h2=>?_⟩;by_cases e:k=i
   ·subst e; exact hp
   ·exact hI k (by omega) h2) (by
  intro _ hI;refine⟨.inl (),rfl,.inl ⟨rfl,fun x hx=>?_⟩⟩;obtain⟨k,hk,rfl⟩:=wK hx;exact hI k hk hk)
 rw[h1];rcases h2 with⟨rfl,h2⟩|⟨i,rfl,h2⟩
 ·exact⟨-1,rfl,⟨fun h=> by omega,fun⟨x,hx,hp⟩=> by rw[h2 x hx]at hp; cases hp⟩⟩
 ·exact⟨i,rfl,⟨fun _=> h2,fun _=> Int.natCast_nonneg i⟩⟩
theorem F117_eq{l:L2}{f:L1→Option Bool}(P:L1→Bool)(hl:l.length≤1099511627776)(hf:∀x∈l,f x=some (P x)):F117 l f=some (l.any P):=by
 obtain⟨i,h1,h2⟩:=F128_eq P hl hf;unfold F117;rw[h1,ob];have:decide (0≤i)=l.any P:=by
  rw[uD];simp only[decide_eq_true_eq,vS];exact h2
 rw[this]
def rowB(p w:Int)(row:L1):Bool:=decide ((row.length:Int)=w)&& row.all fun x=> decide (0≤x∧x < p)
theorem rowB_iff{p w:Int}{row:L1}:rowB p w row=true↔RowOK p w row:=by
 unfold rowB RowOK;simp only[wL,decide_eq_true_eq,wO]
theorem F130_eq{p:Int}(hp:2≤p∧p≤7)(x:Int):F130 x p=some (!decide (0≤x∧x < p)):=by
 unfold F130;rw[ql (by omega) (by omega),ob,F56_eq,ob]
 congr 3
 exact propext ⟨fun h=>⟨h.1,by omega⟩,fun h=>⟨h.1,by omega⟩⟩
theorem F129_eq{p w:Int}(hp:2≤p∧p≤7){l:L1}(hl:l.length≤1099511627776):F129 p w l=some (rowB p w l):=by
 unfold F129 rowB;by_cases h:(l.length:Int)=w
 ·rw[if_pos h,F82_eq (fun x=> !decide (0≤x∧x < p)) hl (fun x _=> F130_eq hp x),ob]
  simp[h,List.not_any_eq_all_not]
 ·rw[if_neg h]; simp[h]
theorem F116_eq{p w:Int}(hp:2≤p∧p≤7){l:L1}(hl:l.length≤1099511627776):F116 l p w=some (!rowB p w l):=by
 unfold F116; rw[F129_eq hp hl,ob]
theorem F90_eq{p w:Int}(hp:2≤p∧p≤7){m:L2}(hm:m.length≤1099511627776)(hs:∀r∈m,r.length≤1099511627776):F90 p w m=some (m.all (rowB p w)):=by
 unfold F90;rw[F117_eq (fun r=> !rowB p w r) hm (fun r hr=> F116_eq hp (hs r hr)),ob];simp[List.not_any_eq_all_not]
theorem F90_tells{p w:Int}(hp:2≤p∧p≤7){m:L2}(hm:m.length≤1099511627776)(hs:∀r∈m,r.length≤1099511627776):zZ (F90 p w m) (∀r∈m,RowOK p w r):=
 ⟨_,F90_eq hp hm hs,by simp only[wO,rowB_iff]⟩
theorem F92_tells{l:L1}(hl:l.length≤1099511627776):zZ (F92 l) (∀x∈l,x=0):=by
 unfold F92;have h:F82 l (fun x=> F118 x)=some (l.any fun x=> !decide (x=0)):=F82_eq _ hl (fun x _=> rfl);rw[h,ob];exact⟨_,rfl,by simp[List.not_any_eq_all_not]⟩
theorem F81_tells{l:L1}(hl:l.length≤1099511627776):∃i,F81 l=some i∧(0≤i↔¬∀x∈l,x=0):=by
 unfold F81;have hs:l.length < 4611686018427387904:=by omega
 obtain⟨t,h1,h2⟩:=qy (B:=F81_1_B l) (D:=F81_1_D l) (hi:=l.length) l.length rfl hs (fun i _=>∀k (hk:k < i) (h2:k < l.length),l[k]=0) (fun t=>(t= .inl ()∧∀x∈l,x=0)∨∃i:Nat,t= .inr (i:Int)∧¬∀x∈l,x=0) (s:=()) (fun k hk=> by omega) (by
  intro i _ hi hI;unfold F81_1_B;rw[qk hi,ob];by_cases hp:l[i]=0
  ·rw[if_pos hp]
   left;refine⟨(),rfl,fun k hk h2=>?_⟩;by_cases e:k=i
   ·subst e; exact hp
   ·exact hI k (by omega) h2
  ·rw[if_neg hp]
   right;exact⟨_,rfl,.inr ⟨i,rfl,fun ha=> hp (ha _ (wC hi))⟩⟩) (by
  intro _ hI;refine⟨.inl (),rfl,.inl ⟨rfl,fun x hx=>?_⟩⟩;obtain⟨k,hk,rfl⟩:=wK hx;exact hI k hk hk)
 rw[h1];rcases h2 with⟨rfl,h2⟩|⟨i,rfl,h2⟩
 ·exact⟨-1,rfl,⟨fun h=> by omega,fun h=> absurd h2 h⟩⟩
 ·exact⟨i,rfl,⟨fun _=> h2,fun _=> Int.natCast_nonneg i⟩⟩
structure qJ (x:qa):Prop where
 d:x.D.length≤1048576
 m:x.M.length≤1048576
 r:∀m∈x.M,m.length≤1048576∧∀l∈m,l.length≤1048576
structure ShapeC (x:qa):Prop where
 p:IsP x.P
 dl:1≤x.D.length∧x.D.length≤6
 ml:x.M.length+1=x.D.length
 dims:∀d∈x.D,0≤d∧d≤8
def jC(x:qa)(k:Nat):Prop:=jg x.P (x.D.getD (k+1) 0) (x.D.getD k 0) (x.M.getD k [])
def SqAt(x:qa)(k:Nat):Prop:=∀row∈x.M.getD k [],∀y∈lin x.P (x.D.getD (k - 1) 0).toNat row (x.M.getD (k - 1) []),y=0
structure qS (x:qa):Prop extends ShapeC x where
 tab:∀k,k < x.M.length→jC x k
 sq:∀k,0 < k→k < x.M.length→SqAt x k
theorem lin_len{p:Int}{n:Nat}{v:L1}{m:L2}(H:LinOK p n v m):(lin p n v m).length=n:=(linN_ok H _ (wE _)).1
theorem linOK_of{x:qa}(hs:ShapeC x){k:Nat}(h1:0 < k)(h2:k < x.M.length)(t1:jC x (k - 1))(t2:jC x k){row:L1}(hr:row∈x.M.getD k []):
  LinOK x.P (x.D.getD (k - 1) 0).toNat row (x.M.getD (k - 1) [])∧0≤x.D.getD (k - 1) 0∧x.D.getD (k - 1) 0≤8:=by
 have hd:∀j,j < x.D.length→0≤x.D.getD j 0∧x.D.getD j 0≤8:=fun j hj=> by
  have:=hs.dims _ (wC hj);simpa[hj]using this
 have hml:=hs.ml;have d1:=hd (k - 1) (by omega);have d2:=hd k (by omega);obtain⟨q1,q2⟩:=t2.2 row hr;refine⟨⟨hs.p.range,q2,?_,fun l hl=>?_,?_,?_⟩,d1⟩
 ·have:=t1.1
  have e:k - 1+1=k:=by omega
  rw[e]at this;omega
 ·obtain⟨r1,r2⟩:=t1.2 l hl
  exact⟨by omega,r2⟩
 ·omega
 ·omega
theorem ji{x:qa}(h:x.D.length≤1048576):F86 x=some ((x.D.length:Int) - 1):=by
 unfold F86; rw[ql (by omega) (by omega),ob]
theorem mapsD{x:qa}{k:Nat}(h:k < x.M.length):x.M.getD k []=x.M[k]:=by simp[h]
theorem F39_3_eq{x:qa}(hs:ShapeC x){k:Nat}(h2:k < x.M.length)(t1:0 < k→jC x (k - 1))(t2:jC x k)(hsm:qJ x):
  ∃t,qA (F39_3_S x (k:Int)) 0=some t∧((t= .inl ()∧(0 < k→SqAt x k))∨(t= .inr false∧0 < k∧¬SqAt x k)):=by
 have hml:=hs.ml;have hdl:=hs.dl;have hk:=(hsm.r _ (wC h2)).1;refine qQ (fun j:Int=>(x.M[k].length - j).toNat) (fun j=>∃n:Nat,j=n∧n≤x.M[k].length∧(0 < k→∀i (hi:i < n) (h3:i < x.M[k].length),∀y∈lin x.P (x.D.getD (k - 1) 0).toNat x.M[k][i] (x.M.getD (k - 1) []),y=0)) _ ⟨0,rfl,by omega,fun _ i hi=> by omega⟩ ?_;rintro _ ⟨n,rfl,hn,hall⟩;unfold F39_3_S;rw[qk h2,ob];by_cases hlt:(n:Int) < x.M[k].length
 ·rw[if_pos hlt]
  have hnl:n < x.M[k].length:=by omega
  by_cases h0:0 < k
  ·rw[if_pos (by omega)]
   obtain⟨H,d0,d8⟩:=linOK_of hs h0 h2 (t1 h0) t2 (row:=x.M[k][n]) (by rw[mapsD h2]; exact wC hnl);have e1:((k:Int) - 1)=((k - 1:Nat):Int):=by omega
   rw[ql (by omega) (by omega),ob,e1,qh (show k - 1 < x.M.length by omega) [],ob,qk hnl,ob,qh (show k - 1 < x.D.length by omega) 0,ob,
    F80_eq H (by omega),ob]
   obtain⟨i,g1,g2⟩:=F81_tells (l:=lin x.P (x.D.getD (k - 1) 0).toNat x.M[k][n] (x.M.getD (k - 1) [])) (by rw[lin_len H]; omega);rw[g1,ob];by_cases hz:0≤i
   ·rw[if_pos hz]
    right;refine⟨_,rfl,.inr ⟨rfl,h0,fun ha=> g2.1 hz (ha _ (by rw[mapsD h2]; exact wC hnl))⟩⟩
   ·rw[if_neg hz]
    left;rw[ql (by omega) (by omega),ob];refine⟨_,rfl,⟨n+1,rfl,hnl,fun _ i hi h3=>?_⟩,by omega⟩;by_cases e:i=n
    ·subst e
     exact vY fun hq=> hz (g2.2 hq)
    ·exact hall h0 i (by omega) h3
  ·rw[if_neg (by omega)]
   right;exact⟨_,rfl,.inl ⟨rfl,fun h=> absurd h h0⟩⟩
 ·rw[if_neg hlt]
  right;refine⟨_,rfl,.inl ⟨rfl,fun h0 row hr=>?_⟩⟩;rw[mapsD h2]at hr;obtain⟨i,hi,rfl⟩:=wK hr;exact hall h0 i (by omega) hi
theorem F39_2_eq{x:qa}(hs:ShapeC x)(hsm:qJ x):
  ∃t,forR 0 (x.M.length:Int) (F39_2_B x) (F39_2_D x) ()=some t∧((t= .inl ()∧(∀k,k < x.M.length→jC x k)∧∀k,0 < k→k < x.M.length→SqAt x k)∨(t= .inr false∧¬((∀k,k < x.M.length→jC x k)∧∀k,0 < k→k < x.M.length→SqAt x k))):=by
 have hml:=hs.ml;have hm:=hsm.m;have hlen:x.M.length < 4611686018427387904:=by omega
 refine qy x.M.length rfl hlen (fun i _=>(∀k,k < i→jC x k)∧∀k,0 < k→k < i→SqAt x k) _ ⟨fun k hk=> by omega,fun k _ hk=> by omega⟩ ?_ ?_
 ·rintro i _ hi ⟨ht,hq⟩
  unfold F39_2_B;have e2:((i:Int)+1)=((i+1:Nat):Int):=by omega
  have hr:=hsm.r _ (wC hi);rw[qk hi,ob,e2,qh (show i+1 < x.D.length by omega) 0,ob,qh (show i < x.D.length by omega) 0,ob];have hT:=F79_tells (p:=x.P) (c:=x.D.getD (i+1) 0) (w:=x.D.getD i 0) (m:=x.M[i]) hs.p.range (by omega) (fun r h=> by have:=hr.2 r h; omega);rcases hT.case with⟨h1,h2⟩|⟨h1,h2⟩
  ·rw[h1,ob,if_pos rfl]
   have hti:jC x i:=by unfold jC; rw[mapsD hi]; exact h2
   obtain⟨t,g1,g2⟩:=F39_3_eq hs hi (fun h0=> ht _ (by omega)) hti hsm;rw[g1,ob];rcases g2 with⟨rfl,g2⟩|⟨rfl,g0,g2⟩
   ·left
    refine⟨(),rfl,fun k hk=>?_,fun k h0 hk=>?_⟩
    ·by_cases e:k=i
     ·subst e; exact hti
     ·exact ht k (by omega)
    ·by_cases e:k=i
     ·subst e; exact g2 h0
     ·exact hq k h0 (by omega)
   ·right
    exact⟨_,rfl,.inr ⟨rfl,fun ha=> g2 (ha.2 i g0 hi)⟩⟩
  ·rw[h1,ob,if_neg wD]
   right;refine⟨_,rfl,.inr ⟨rfl,fun ha=> h2 ?_⟩⟩;have:=ha.1 i hi;unfold jC at this;rw[mapsD hi]at this;exact this
 ·rintro _ ⟨ht,hq⟩
  exact⟨.inl (),rfl,.inl ⟨rfl,ht,hq⟩⟩
theorem F39_1_eq{x:qa}(hsm:qJ x):∃t,forR 0 (x.D.length:Int) (F39_1_B x) (F39_1_D x) ()=some t∧((t= .inl ()∧∀d∈x.D,0≤d∧d≤8)∨(t= .inr false∧¬∀d∈x.D,0≤d∧d≤8)):=by
 have hm:=hsm.d;have hlen:x.D.length < 4611686018427387904:=by omega
 refine qy x.D.length rfl hlen (fun i _=>∀k (hk:k < i) (h2:k < x.D.length),0≤x.D[k]∧x.D[k]≤8) _ (fun k hk=> by omega) ?_ ?_
 ·rintro i _ hi hI
  unfold F39_1_B;rw[qk hi,ob,F54_eq,ob];by_cases h:0≤x.D[i]∧x.D[i]≤8
  ·rw[if_pos (by simpa using h)]
   left;refine⟨(),rfl,fun k hk h2=>?_⟩;by_cases e:k=i
   ·subst e; exact h
   ·exact hI k (by omega) h2
  ·rw[if_neg (by simpa using h)]
   right;exact⟨_,rfl,.inr ⟨rfl,fun ha=> h (ha _ (wC hi))⟩⟩
 ·rintro _ hI
  refine⟨.inl (),rfl,.inl ⟨rfl,fun d hd=>?_⟩⟩;obtain⟨k,hk,rfl⟩:=wK hd;exact hI k hk hk
theorem F39_tells{x:qa}(hsm:qJ x):zZ (F39 x) (qS x):=by
 have hd:=hsm.d;unfold F39;rcases(F78_tells x.P).case with⟨h1,hp⟩|⟨h1,hp⟩
 case inr=> rw[h1,ob,if_neg wD]; exact .of_false rfl fun h=> hp h.p
 rw[h1,ob,if_pos rfl];by_cases c1:(x.D.length:Int) < 1
 ·rw[if_pos c1]; exact .of_false rfl fun h=> by have:=h.dl; omega
 rw[if_neg c1];by_cases c2:6 < (x.D.length:Int)
 ·rw[if_pos c2]; exact .of_false rfl fun h=> by have:=h.dl; omega
 rw[if_neg c2,ql (by omega) (by omega),ob];by_cases c3:(x.M.length:Int)=(x.D.length:Int) - 1
 case neg=> rw[if_neg c3]; exact .of_false rfl fun h=> by have:=h.ml; omega
 rw[if_pos c3];obtain⟨t,g1,g2⟩:=F39_1_eq hsm;rw[g1,ob];rcases g2 with⟨rfl,g2⟩|⟨rfl,g2⟩
 case inr=> exact .of_false rfl fun h=> g2 h.dims
 have hs:ShapeC x:=⟨hp,by omega,by omega,g2⟩;obtain⟨t,k1,k2⟩:=F39_2_eq hs hsm;simp only;rw[k1,ob];rcases k2 with⟨rfl,k2,k3⟩|⟨rfl,k2⟩
 ·exact .of_true rfl ⟨hs,k2,k3⟩
 ·exact .of_false rfl fun h=> k2 ⟨h.tab,h.sq⟩
theorem F42_1_eq{x:qa}(hs:ShapeC x)(hsm:qJ x):
  ∃t,forR 0 (x.M.length:Int) (F42_1_B x) (F42_1_D x) ()=some t∧((t= .inl ()∧∀k,k < x.M.length→jC x k)∨(t= .inr false∧¬∀k,k < x.M.length→jC x k)):=by
 have hml:=hs.ml;have hm:=hsm.m;have hlen:x.M.length < 4611686018427387904:=by omega
 refine qy x.M.length rfl hlen (fun i _=>∀k,k < i→jC x k) _ (fun k hk=> by omega) ?_ ?_
 ·rintro i _ hi ht
  unfold F42_1_B;have e2:((i:Int)+1)=((i+1:Nat):Int):=by omega
  have hr:=hsm.r _ (wC hi);rw[qk hi,ob,e2,qh (show i+1 < x.D.length by omega) 0,ob];have hti:jC x i↔((x.M[i].length:Int)=x.D.getD (i+1) 0∧∀r∈x.M[i],RowOK x.P (x.D.getD i 0) r):=by unfold jC; rw[mapsD hi]; rfl
  by_cases hc:(x.M[i].length:Int)=x.D.getD (i+1) 0
  ·rw[if_pos hc,qh (show i < x.D.length by omega) 0,ob]
   have hT:=F90_tells (p:=x.P) (w:=x.D.getD i 0) (m:=x.M[i]) hs.p.range (by omega) (fun r h=> by have:=hr.2 r h; omega);rcases hT.case with⟨h1,h2⟩|⟨h1,h2⟩
   ·rw[h1,ob,if_pos rfl]
    left;refine⟨(),rfl,fun k hk=>?_⟩;by_cases e:k=i
    ·subst e; exact hti.2 ⟨hc,h2⟩
    ·exact ht k (by omega)
   ·rw[h1,ob,if_neg wD]
    right;exact⟨_,rfl,.inr ⟨rfl,fun ha=> h2 (hti.1 (ha i hi)).2⟩⟩
  ·rw[if_neg hc]
   right;exact⟨_,rfl,.inr ⟨rfl,fun ha=> hc (hti.1 (ha i hi)).1⟩⟩
 ·rintro _ ht
  exact⟨.inl (),rfl,.inl ⟨rfl,ht⟩⟩
theorem F91_eq{x:qa}(hs:ShapeC x)(hsm:qJ x){k:Nat}(h1:0 < k)(h2:k < x.M.length)(t1:jC x (k - 1))(t2:jC x k){row:L1}(hr:row∈x.M.getD k []):
  F91 x (k:Int) row=some (lin x.P (x.D.getD (k - 1) 0).toNat row (x.M.getD (k - 1) [])):=by
 have hml:=hs.ml;have hdl:=hs.dl;obtain⟨H,d0,d8⟩:=linOK_of hs h1 h2 t1 t2 hr;unfold F91;have e1:((k:Int) - 1)=((k - 1:Nat):Int):=by omega
 rw[if_neg (by omega),ji hsm.d,ob,if_neg (by omega),ql (by omega) (by omega),ob,e1,qh (show k - 1 < x.D.length by omega) 0,ob,qh (show k - 1 < x.M.length by omega) [],ob,
  F119_eq H (by omega),ob]
theorem F42_3_eq{x:qa}(hs:ShapeC x)(hsm:qJ x)(ht:∀k,k < x.M.length→jC x k){n:Nat}(hn:2≤n)(h2:n - 1 < x.M.length):
  ∃t,forR 0 ((x.M[n - 1].length:Nat):Int) (F42_3_B x (n:Int) x.M[n - 1]) (F42_3_D x (n:Int) x.M[n - 1]) ()=some t∧((t= .inl ()∧SqAt x (n - 1))∨(t= .inr false∧¬SqAt x (n - 1))):=by
 have hml:=hs.ml;have hdl:=hs.dl;have hk:=(hsm.r _ (wC h2)).1;have hlen:x.M[n - 1].length < 4611686018427387904:=by omega
 refine qy x.M[n - 1].length rfl hlen (fun i _=>∀j (hj:j < i) (h3:j < x.M[n - 1].length),∀y∈lin x.P (x.D.getD (n - 1 - 1) 0).toNat x.M[n - 1][j] (x.M.getD (n - 1 - 1) []),y=0) _ (fun j hj=> by omega) ?_ ?_
 ·rintro i _ hi hI
  unfold F42_3_B;have hrow:x.M[n - 1][i]∈x.M.getD (n - 1) []:=by rw[mapsD h2]; exact wC hi
  have e1:((n:Int) - 1)=((n - 1:Nat):Int):=by omega
  have t1:=ht (n - 1 - 1) (by omega);have t2:=ht (n - 1) h2;obtain⟨H,d0,d8⟩:=linOK_of hs (by omega) h2 t1 t2 hrow;rw[qk hi,ob,ql (by omega) (by omega),ob,e1,F91_eq hs hsm (by omega) h2 t1 t2 hrow,ob];rcases(F92_tells (l:=lin x.P (x.D.getD (n - 1 - 1) 0).toNat x.M[n - 1][i] (x.M.getD (n - 1 - 1) [])) (by rw[lin_len H]; omega)).case with⟨g1,g2⟩|⟨g1,g2⟩
  ·rw[g1,ob,if_pos rfl]
   left;refine⟨(),rfl,fun j hj h3=>?_⟩;by_cases e:j=i
   ·subst e; exact g2
   ·exact hI j (by omega) h3
  ·rw[g1,ob,if_neg wD]
   right;exact⟨_,rfl,.inr ⟨rfl,fun ha=> g2 (ha _ hrow)⟩⟩
 ·rintro _ hI
  refine⟨.inl (),rfl,.inl ⟨rfl,fun row hr=>?_⟩⟩;rw[mapsD h2]at hr;obtain⟨j,hj,rfl⟩:=wK hr;exact hI j hj hj
theorem F42_2_eq{x:qa}(hs:ShapeC x)(hsm:qJ x)(ht:∀k,k < x.M.length→jC x k):
  ∃t,qA (F42_2_S x) 2=some t∧((t= .inl ()∧∀k,0 < k→k < x.M.length→SqAt x k)∨(t= .inr false∧¬∀k,0 < k→k < x.M.length→SqAt x k)):=by
 have hml:=hs.ml;have hdl:=hs.dl;refine qQ (fun j:Int=>(x.D.length+2 - j).toNat) (fun j=>∃n:Nat,j=n∧2≤n∧n≤x.D.length+1∧∀k,0 < k→k < n - 1→k < x.M.length→SqAt x k) _ ⟨2,rfl,by omega,by omega,fun k h0 hk=> by omega⟩ ?_;rintro _ ⟨n,rfl,hn,hn2,hall⟩;unfold F42_2_S;rw[ji hsm.d,ob];by_cases hlt:(n:Int)≤(x.D.length:Int) - 1
 ·rw[if_pos hlt]
  have e1:((n:Int) - 1)=((n - 1:Nat):Int):=by omega
  have h2:n - 1 < x.M.length:=by omega
  rw[ql (by omega) (by omega),ob,e1,qk h2,ob];obtain⟨t,g1,g2⟩:=F42_3_eq hs hsm ht hn h2;rw[g1,ob];rcases g2 with⟨rfl,g2⟩|⟨rfl,g2⟩
  ·left
   refine⟨((n+1:Nat):Int),?_,⟨n+1,rfl,by omega,by omega,fun k h0 hk h3=>?_⟩,by omega⟩
   ·simp only
    rw[ql (by omega) (by omega),ob];rfl
   ·by_cases e:k=n - 1
    ·subst e; exact g2
    ·exact hall k h0 (by omega) h3
  ·right
   exact⟨_,rfl,.inr ⟨rfl,fun ha=> g2 (ha _ (by omega) h2)⟩⟩
 ·rw[if_neg hlt]
  right;exact⟨_,rfl,.inl ⟨rfl,fun k h0 hk=> hall k h0 (by omega) hk⟩⟩
theorem F42_tells{x:qa}(hsm:qJ x):zZ (F42 x) (qS x):=by
 have hd:=hsm.d;unfold F42;rcases(F67_tells x.P).case with⟨h1,hp⟩|⟨h1,hp⟩
 case inr=> rw[h1,ob,if_neg wD]; exact .of_false rfl fun h=> hp h.p
 rw[h1,ob,if_pos rfl,ji hd,ob,F56_eq,ob];by_cases c1:0≤(x.D.length:Int) - 1∧(x.D.length:Int) - 1≤5
 case neg=> rw[if_neg (by simpa using c1)]; exact .of_false rfl fun h=> by have:=h.dl; omega
 rw[if_pos (by simpa using c1)];by_cases c3:(x.M.length:Int)=(x.D.length:Int) - 1
 case neg=> rw[if_neg c3]; exact .of_false rfl fun h=> by have:=h.ml; omega
 rw[if_pos c3];have h88:F82 x.D (fun y=> F88 y)=some (x.D.any fun d=> !decide (0≤d∧d≤8)):=F82_eq _ (by omega) (fun d _=> by unfold F88; rw[F56_eq,ob]);rw[h88,ob];have hany:(x.D.any fun d=> !decide (0≤d∧d≤8))=true↔¬∀d∈x.D,0≤d∧d≤8:=by
  simp only[vS,vV,decide_eq_false_iff_not];constructor
  ·rintro⟨d,h1,h2⟩ ha; exact h2 (ha d h1)
  ·intro hn
   exact vY fun hc=> hn fun d hd=> vY fun h=> hc ⟨d,hd,h⟩
 by_cases c4:(x.D.any fun d=> !decide (0≤d∧d≤8))=true
 ·rw[if_pos c4]; exact .of_false rfl fun h=> hany.1 c4 h.dims
 rw[if_neg c4];have hdims:∀d∈x.D,0≤d∧d≤8:=vY fun hc=> c4 (hany.2 hc);have hs:ShapeC x:=⟨hp,by omega,by omega,hdims⟩;obtain⟨t,g1,g2⟩:=F42_1_eq hs hsm;rw[g1,ob];rcases g2 with⟨rfl,ht⟩|⟨rfl,ht⟩
 case inr=> exact .of_false rfl fun h=> ht h.tab
 obtain⟨t,k1,k2⟩:=F42_2_eq hs hsm ht;simp only;rw[k1,ob];rcases k2 with⟨rfl,k2⟩|⟨rfl,k2⟩
 ·exact .of_true rfl ⟨hs,ht,k2⟩
 ·exact .of_false rfl fun h=> k2 h.sq
def xv(ms:L3)(k i j:Nat):Int:=((ms.getD k []).getD i []).getD j 0
def InT(ms:L3)(k i j:Nat):Prop:=k < ms.length∧i < (ms.getD k []).length∧j < ((ms.getD k []).getD i []).length
theorem qV{α:Type}{l:List α}{i:Nat}(h:i < l.length)(d:α):l.getD i d∈l:=by
 rw[gD,gB h]; exact wC h
theorem F76_eq{x:qa}(hs:x.D.length≤1048576){k:Nat}(h:k+1 < x.D.length)(hm:k < x.M.length):F76 x ((k+1:Nat):Int)=some (x.M.getD k []):=by
 unfold F76;have e:(((k+1:Nat):Int) - 1)=(k:Int):=by omega
 rw[ql (by omega) (by omega),ob,F54_eq,ob,if_pos (by simp; omega),ql (by omega) (by omega),ob,e,qh hm [],ob]
abbrev LongL{α:Type}(L:α→Prop)(l:List α):Prop:=l.length≤9223372036854775807∧∀y∈l,L y
structure zS (ms:L3):Prop where
 m:ms.length≤1048576
 r:∀m∈ms,m.length≤1048576∧∀r∈m,r.length≤1048576
def TabM(x:qa)(ms:L3)(k:Nat):Prop:=jg x.P (x.D.getD (k+1) 0) (x.D.getD k 0) (ms.getD k [])
structure MapsOK (x:qa) (ms:L3):Prop where
 v:qS x
 l:ms.length=x.M.length
 t:∀k,k < ms.length→TabM x ms k
abbrev T3s:=L3
structure Shp (s u:T3s):Prop where
 l:s.length=u.length
 t:∀k,k < u.length→(s.getD k []).length=(u.getD k []).length
 r:∀k,k < u.length→∀i,i < (u.getD k []).length→((s.getD k []).getD i []).length=((u.getD k []).getD i []).length
theorem Shp.refl(s:T3s):Shp s s:=⟨rfl,fun _ _=> rfl,fun _ _ _ _=> rfl⟩
theorem Shp.trans{a b c:T3s}(h:Shp a b)(k:Shp b c):Shp a c:=
 ⟨h.l.trans k.l,fun n hn=>(h.t n (by rw[k.l]; exact hn)).trans (k.t n hn),fun n hn i hi=>(h.r n (by rw[k.l]; exact hn) i (by rw[k.t n hn]; exact hi)).trans (k.r n hn i hi)⟩
theorem Shp.symm{a b:T3s}(h:Shp a b):Shp b a:=
 ⟨h.l.symm,fun n hn=>(h.t n (by rw[←h.l]; exact hn)).symm,fun n hn i hi=>(h.r n (by rw[←h.l]; exact hn) i (by rw[←h.t n (by rw[←h.l]; exact hn)]; exact hi)).symm⟩
theorem Shp.inT{s t:T3s}(h:Shp s t){k i j:Nat}(q:InT t k i j):InT s k i j:=by
 obtain⟨q1,q2,q3⟩:=q;exact⟨by rw[h.l]; exact q1,by rw[h.t k q1]; exact q2,by rw[h.r k q1 i q2]; exact q3⟩
def put3(s:T3s)(k i j:Nat)(z:Int):T3s:=s.set k ((s.getD k []).set i (((s.getD k []).getD i []).set j z))
theorem getD_set{α:Type}{l:List α}{k k':Nat}{x d:α}(hk:k < l.length):(l.set k x).getD k' d=if k'=k then x else l.getD k' d:=by
 rw[gD,gK];by_cases e:k=k'
 ·subst e; rw[if_pos rfl,if_pos hk,if_pos rfl]; rfl
 ·rw[if_neg e,if_neg (fun q=> e q.symm),gD]
theorem put3_shp{s:T3s}{k i j:Nat}(h:InT s k i j)(z:Int):Shp (put3 s k i j z) s:=by
 obtain⟨h1,h2,h3⟩:=h;refine⟨by simp[put3],fun n hn=>?_,fun n hn m hm=>?_⟩
 ·unfold put3; rw[getD_set h1]; split
  ·rename_i e; subst e; simp
  ·rfl
 ·unfold put3; rw[getD_set h1]; split
  ·rename_i e; subst e
   rw[getD_set h2]; split
   ·rename_i e; subst e; simp
   ·rfl
  ·rfl
theorem put3_at{s:T3s}{k i j:Nat}(h:InT s k i j)(z:Int)(k' i' j':Nat):xv (put3 s k i j z) k' i' j'=if k'=k∧i'=i∧j'=j then z else xv s k' i' j':=by
 obtain⟨h1,h2,h3⟩:=h;unfold xv put3;rw[getD_set h1];by_cases e:k'=k
 ·subst e
  rw[if_pos rfl,getD_set h2];by_cases e:i'=i
  ·subst e
   rw[if_pos rfl,getD_set h3];by_cases e:j'=j
   ·subst e; simp
   ·rw[if_neg e,if_neg (by simp[e])]
  ·rw[if_neg e,if_neg (by simp[e])]
 ·rw[if_neg e,if_neg (by simp[e])]
def q0(p a b:Int):Int:=(a+b).tmod p
def q1(p a b:Int):Int:=((a+b).tmod p+p).tmod p
def Rng(p:Int)(s:T3s):Prop:=∀k i j,InT s k i j→0≤xv s k i j∧xv s k i j < p
def AT(q:Int→Int→Int)(s0 ms:T3s)(D:Nat→Nat→Nat→Prop)(s:T3s):Prop:=
 Shp s s0∧∀k i j,InT s0 k i j→(D k i j→xv s k i j=q (xv s0 k i j) (xv ms k i j))∧(¬D k i j→xv s k i j=xv s0 k i j)
theorem AT.imp{q:Int→Int→Int}{s0 ms:T3s}{D D':Nat→Nat→Nat→Prop}{s:T3s}(h:AT q s0 ms D s)(hd:∀k i j,InT s0 k i j→(D k i j↔D' k i j)):AT q s0 ms D' s:=
 ⟨h.1,fun k i j hin=>⟨fun d=>(h.2 k i j hin).1 ((hd k i j hin).2 d),fun d=>(h.2 k i j hin).2 fun x=> d ((hd k i j hin).1 x)⟩⟩
theorem AT.zero(q:Int→Int→Int)(s0 ms:T3s):AT q s0 ms (fun _ _ _=> False) s0:=⟨.refl _,fun k i j _=>⟨fun x=> x.elim,fun _=> rfl⟩⟩
theorem AT.step{q:Int→Int→Int}{s0 ms:T3s}{D D':Nat→Nat→Nat→Prop}{s:T3s}(h:AT q s0 ms D s){k i j:Nat}(hin:InT s0 k i j)(hn:¬D k i j)(hd:∀k' i' j',D' k' i' j'↔D k' i' j'∨(k'=k∧i'=i∧j'=j)):AT q s0 ms D' (put3 s k i j (q (xv s k i j) (xv ms k i j))):=by
 have hs:=h.1.inT hin;refine⟨(put3_shp hs _).trans h.1,fun k' i' j' hin'=>?_⟩;rw[put3_at hs];by_cases e:k'=k∧i'=i∧j'=j
 ·obtain⟨rfl,rfl,rfl⟩:=e
  rw[if_pos ⟨rfl,rfl,rfl⟩,(h.2 _ _ _ hin').2 hn];exact⟨fun _=> rfl,fun d=> absurd ((hd _ _ _).2 (.inr ⟨rfl,rfl,rfl⟩)) d⟩
 ·rw[if_neg e]
  refine⟨fun d=>(h.2 _ _ _ hin').1 (((hd _ _ _).1 d).resolve_right e),fun d=>(h.2 _ _ _ hin').2 fun x=> d ((hd _ _ _).2 (.inl x))⟩
theorem cpy_loop{α:Type}{l:List α}{B:Int→List α→Option (List α⊕List α)}{D:Int→List α→Option (List α)}(hl:l.length≤1048576)
  (hB:∀ (i:Nat) (hi:i < l.length) (s:List α),s.length=i→B i s=some (.inl (s++[l[i]]))) (hD:∀i s,D i s=some s):forR 0 (l.length:Int) B D []=some l:=by
 have hlen:l.length < 4611686018427387904:=by omega
 obtain⟨t,h1,h2⟩:=qy (B:=B) (D:=D) l.length rfl hlen (fun i s=> s=l.take i) (fun t=> t=l) (s:=[]) (by simp) (by
  rintro i s hi rfl;left;refine⟨_,hB i hi _ (by simp; omega),?_⟩;rw[wZ]) (by
  rintro s rfl;exact⟨_,hD _ _,by simp⟩)
 rw[h1,h2]
theorem app_nil{b:Nat}{α:Type}{l:List α}(h:l.length*b≤1099511627776)(h2:l.length≤1099511627776):app b [] l=some l:=by
 rw[qU (by simpa using h) (by simpa using h2)]; rfl
theorem F94_eq{l:L1}(h:l.length≤1048576):F94 l=some l:=by
 unfold F94; rw[app_nil (by omega) (by omega),ob]
theorem F96_eq{l:L1}(h:l.length≤1048576):F96 l=some l:=by
 unfold F96; rw[app_nil (by omega) (by omega)]
theorem F95_eq{l:L2}(h:l.length≤1048576)(h2:∀r∈l,r.length≤1048576):F95 l=some l:=by
 unfold F95;rw[cpy_loop (B:=F95_1_B l) (D:=F95_1_D l) h (fun i hi s hs=> by
  unfold F95_1_B;rw[qk hi,ob,F94_eq (h2 _ (wC hi)),ob,qU (by simp; omega) (by simp; omega),ob]) (fun i s=> rfl),ob]
theorem F55_eq{x:qa}(h:qJ x):F55 x=some x:=by
 have hm:=h.m;have hlen:x.M.length < 4611686018427387904:=by omega
 unfold F55;rw[F94_eq h.d,ob];obtain⟨t,h1,h2⟩:=qy (B:=F55_1_B x) (D:=F55_1_D x) x.M.length rfl hlen (fun i s=> s=(x.M.take i,x.P,x.D)) (fun t=> t=(x.M,x.P,x.D)) (s:=([],x.P,x.D)) (by simp) (by
  rintro i s hi rfl;left;have hr:=h.r _ (wC hi);have hlt:(x.M.take i).length=i:=by simp; omega
  refine⟨(x.M.take (i+1),x.P,x.D),?_,rfl⟩;unfold F55_1_B;simp only;rw[qk hi,ob,F95_eq hr.1 hr.2,ob,qU (by simp; omega) (by simp; omega),ob,wZ]) (by
  rintro s rfl;exact⟨_,rfl,by simp⟩)
 rw[h1,h2,ob]
theorem TabM.len{x:qa}{ms:T3s}{k:Nat}(h:TabM x ms k):((ms.getD k []).length:Int)=x.D.getD (k+1) 0:=h.1
theorem MapsOK.self{x:qa}(h:qS x):MapsOK x x.M:=⟨h,rfl,fun k hk=> h.tab k hk⟩
theorem MapsOK.rng{x:qa}{ms:T3s}(h:MapsOK x ms):Rng x.P ms:=by
 rintro k i j ⟨h1,h2,h3⟩;exact((h.t k h1).2 _ (qV h2 [])).2 _ (qV h3 0)
theorem MapsOK.shp{x:qa}{ms ns:T3s}(h:MapsOK x ms)(k:MapsOK x ns):Shp ms ns:=by
 have e:ms.length=ns.length:=h.l.trans k.l.symm;refine⟨e,fun n hn=>?_,fun n hn i hi=>?_⟩
 ·have a:=(h.t n (by omega)).1
  have b:=(k.t n hn).1;omega
 ·have a:=(h.t n (by omega)).1
  have b:=(k.t n hn).1;have c:=((h.t n (by omega)).2 _ (qV (show i < (ms.getD n []).length by omega) [])).1;have d:=((k.t n hn).2 _ (qV hi [])).1;omega
inductive Ch {α:Type} (R:α→Int→Int→Prop):List α→Int→Int→Prop
 |nil (k:Int):Ch R [] k k
 |cons {a:α} {l:List α} {k j m:Int}:R a k j→Ch R l j m→Ch R (a::l) k m
theorem Ch.le{α:Type}{R:α→Int→Int→Prop}(hR:∀a s j,R a s j→s≤j):∀ {l:List α} {k m:Int},Ch R l k m→k≤m
 |_,_,_,.nil _=> yE _
 |_,_,_,.cons p q=> Int.le_trans (hR _ _ _ p) (Ch.le hR q)
theorem qJ.zero:qJ (⟨0,[],[]⟩:qa):=⟨by simp,by simp,by simp⟩
theorem tmod_pos{a p:Int}(h:0≤a):a.tmod p=a% p:=Int.tmod_eq_emod_of_nonneg h
theorem tmod_cg{a p:Int}:Cg p (a.tmod p) a:=⟨-(a.tdiv p),by have:=Int.tmod_add_mul_tdiv a p; grind⟩
theorem F127_eq{p x:Int}(hp:2≤p∧p≤7):F127 p x=some (x% p):=by
 have h1:=Int.tmod_lt_of_pos x (show 0 < p by omega);have h2: -p < x.tmod p:=by
  have h3:=Int.tmod_lt_of_pos (-x) (show 0 < p by omega);rw[Int.neg_tmod]at h3; omega
 unfold F127;rw[jR (by omega),ob,ql (by omega) (by omega),ob,jR (by omega),ob,tmod_pos (by omega)]
 congr 1
 exact Cg.emod ((tmod_cg.add (Cg.refl p p)).trans ⟨1,by grind⟩)
theorem idx_loop{α:Type}{l:List α}(g:Nat→α→α){B:Int→List α→Option (List α⊕List α)}{D:Int→List α→Option (List α)}(hl:l.length≤1048576)
  (hB:∀ (i:Nat) (hi:i < l.length) (s:List α),s.length=l.length→(∀k,s[k]? =if k < i then(l[k]?).map (g k)else l[k]?)→B i s=some (.inl (s.set i (g i l[i])))) (hD:∀i s,D i s=some s):forR 0 (l.length:Int) B D l=some (l.mapIdx g):=by
 obtain⟨t,h1,h2⟩:=qy (B:=B) (D:=D) l.length rfl (by omega) (fun i s=> s.length=l.length∧∀k,s[k]? =if k < i then(l[k]?).map (g k)else l[k]?) (fun t=> t=l.mapIdx g) (s:=l) ⟨rfl,fun k=> by simp⟩ (by
  rintro i s hi ⟨p1,p2⟩;left;refine⟨_,hB i hi s p1 p2,by rw[vW]; exact p1,fun k=>?_⟩;rw[gK];by_cases e:i=k
  ·subst e; rw[if_pos rfl,if_pos (by omega),if_pos (by omega)]; simp[hi]
  ·rw[if_neg e,p2 k]
   by_cases q:k < i
   ·rw[if_pos q,if_pos (by omega)]
   ·rw[if_neg q,if_neg (by omega)]) (by
  rintro s ⟨p1,p2⟩;refine⟨s,hD _ _,?_⟩;apply List.ext_getElem?;intro k;rw[p2 k,List.getElem?_mapIdx];by_cases q:k < l.length
  ·rw[if_pos q]
  ·rw[if_neg q,gF (by omega)]; rfl)
 rw[h1,h2]
theorem zk{v:L1}{j:Nat}(h:j < v.length):getI v (j:Int)=some (nth v j):=by rw[qk h,qP h]
theorem rng_mul{p a b:Int}(hp:2≤p∧p≤7)(ha:0≤a∧a < p)(hb:0≤b∧b < p):0≤a*b∧a*b≤49:=by
 refine⟨Int.mul_nonneg ha.1 hb.1,?_⟩;have:=Int.mul_le_mul (show a≤7 by omega) (show b≤7 by omega) hb.1 (by decide);omega
theorem scl_loop{p k:Int}{w:Nat}(hp:2≤p∧p≤7)(hk:0≤k∧k < p){v:L1}(hv:qD p w v)(hw:w≤1048576){B:Int→L1→Option (L1⊕L1)}{D:Int→L1→Option L1}
  (hB:∀i row,B i row=(getI row i).bind fun x=>(chk (x*k)).bind fun m=>(remI m p).bind fun z=>(setI row i z).bind fun r=> some (.inl r)) (hD:∀i s,D i s=some s):forR 0 (v.length:Int) B D v=some (scl p v k):=by
 have hl:=hv.len;rw[idx_loop (fun _ x=> x*k% p) (by omega) (fun i hi s hs hk'=>?_) hD]
 ·congr 1
  apply yO <;> simp[scl]
 ·have h1:s[i]? =v[i]?:=by rw[hk' i,if_neg (Nat.lt_irrefl _)]
  have h2:s[i]'(by omega)=v[i]:=by
   have:=h1;rw[gB (by omega),gB hi]at this;exact wA this
  have hr:=hv.rng i (by omega);rw[qP hi]at hr;have hm:=rng_mul hp hr hk;rw[hB,qk (show i < s.length by omega),ob,h2,ql (by omega) (by omega),ob,jR (by omega),ob,zg (by omega),ob,tmod_pos hm.1]
theorem F136_eq{p k:Int}{w:Nat}(hp:2≤p∧p≤7)(hk:0≤k∧k < p){v u:L1}(hv:qD p w v)(hu:qD p w u)(hw:w≤1048576):F136 p v u k=some (subv p v u k):=by
 have hl:=hv.len;have hul:=hu.len;have hsl:(subv p v u k).length=w:=by simp[subv,hl,hul]
 unfold F136;obtain⟨t,g1,g2⟩:=qy (B:=F136_1_B p v u k) (D:=F136_1_D p v u k) v.length rfl (by omega) (fun i s=> s=(subv p v u k).take i) (fun t=> t=subv p v u k) (s:=[]) (by simp) (by
  rintro i s hi rfl;left;have hiw:i < w:=by omega
  have h1:=hv.rng i hiw;have h2:=hu.rng i hiw;have hm:=rng_mul hp hk h2;refine⟨(subv p v u k).take (i+1),?_,rfl⟩;unfold F136_1_B;rw[zk hi,ob,zk (by omega),ob,ql (by omega) (by omega),ob,ql (by omega) (by omega),ob,F127_eq hp,ob,qU (by simp; omega) (by simp; omega),ob]
  congr 2
  rw[←wZ (show i < (subv p v u k).length by omega)]
  congr 2
  have:=zE (p:=p) (k:=k) hl hul hiw;rw[qP (by omega)]at this;exact this.symm) (by
  rintro s rfl;refine⟨_,rfl,?_⟩;rw[wT (by omega)])
 rw[g1,ob,g2]
theorem F81_ld{r:L1}(hl:r.length≤1048576):F81 r=some (if ld r < r.length then(ld r:Int)else -1):=by
 unfold F81;obtain⟨t,g1,g2⟩:=qy (B:=F81_1_B r) (D:=F81_1_D r) r.length rfl (by omega) (fun i _=> i≤ld r) (fun t=>(t= .inl ()∧r.length≤ld r)∨(t= .inr (ld r:Int)∧ld r < r.length)) (s:=()) (vD _) (by
  rintro i _ hi hI;unfold F81_1_B;rw[zk hi,ob];by_cases h:nth r i=0
  ·left
   rw[if_pos h];refine⟨(),rfl,?_⟩;rcases wS i (ld r)with q|q
   ·exact q
   ·have:i=ld r:=by omega
    subst this;exact absurd h (ld_ne hi)
  ·right
   rw[if_neg h];refine⟨_,rfl,.inr ?_⟩;have:ld r=i:=by
    rcases wS i (ld r)with q|q
    ·exact absurd (zp q) h
    ·omega
   rw[this]; exact⟨rfl,hi⟩) (by
  rintro _ hI;exact⟨_,rfl,.inl ⟨rfl,hI⟩⟩)
 rw[g1,ob];rcases g2 with⟨rfl,h⟩|⟨rfl,h⟩
 ·rw[if_neg (by omega)]
 ·rw[if_pos h]
theorem inv_ex{p x:Int}(hp:IsP p)(h1:1≤x)(h2:x < p):∃m,1≤m∧m < p∧m*x% p=1:=by
 unfold IsP at hp;rcases hp with rfl|rfl|rfl|rfl
 ·obtain rfl:x=1:=by omega
  exact⟨1,by decide⟩
 ·have:x=1∨x=2:=by omega
  rcases this with rfl|rfl
  ·exact⟨1,by decide⟩
  ·exact⟨2,by decide⟩
 ·have:x=1∨x=2∨x=3∨x=4:=by omega
  rcases this with rfl|rfl|rfl|rfl
  ·exact⟨1,by decide⟩
  ·exact⟨3,by decide⟩
  ·exact⟨2,by decide⟩
  ·exact⟨4,by decide⟩
 ·have:x=1∨x=2∨x=3∨x=4∨x=5∨x=6:=by omega
  rcases this with rfl|rfl|rfl|rfl|rfl|rfl
  ·exact⟨1,by decide⟩
  ·exact⟨4,by decide⟩
  ·exact⟨5,by decide⟩
  ·exact⟨2,by decide⟩
  ·exact⟨3,by decide⟩
  ·exact⟨6,by decide⟩
theorem cg_one{p a:Int}(hp:2≤p∧p≤7)(h:a% p=1):Cg p a 1:=by
 have:=(Cg.mod p a).symm
 rwa[h]at this
theorem F135_eq{p x:Int}(hp:IsP p)(h1:1≤x)(h2:x < p):∃k,F135 p x=some k∧0≤k∧k < p∧Cg p (x*k) 1:=by
 have hr:=hp.range;obtain⟨m,m1,m2,m3⟩:=inv_ex hp h1 h2;obtain⟨n,hn⟩:∃n:Nat,p=n:=⟨p.toNat,by omega⟩;obtain⟨t,g1,k,rfl,g2,g3,g4⟩:=forR_from (B:=F135_1_B p x) (D:=F135_1_D p x) (lo:=1) (hi:=p) 1 n rfl hn (by omega) (by omega) (fun i _=> 1≤i∧∀j:Int,1≤j→j < i→j*x% p≠1) (fun t=>∃k:Int,t= .inr k∧0≤k∧k < p∧Cg p (x*k) 1) (s:=()) ⟨wE _,fun j a b=> by omega⟩ (by
  rintro i _ hi ⟨h0,hI⟩;unfold F135_1_B;have hm:=rng_mul hr (show 0≤(i:Int)∧(i:Int) < p by omega) (show 0≤x∧x < p by omega);rw[F127_eq hr,ob,Int.emod_eq_of_lt (show 0≤x by omega) h2,ql (by omega) (by omega),ob,jR (by omega),ob,tmod_pos hm.1];by_cases h:(i:Int)*x% p=1
  ·right
   rw[if_pos h];exact⟨_,rfl,_,rfl,by omega,by omega,by rw[Int.mul_comm]; exact cg_one hr h⟩
  ·left
   rw[if_neg h];refine⟨(),rfl,by omega,fun j a b=>?_⟩;by_cases e:j=i
   ·subst e; exact h
   ·exact hI j a (by omega)) (by
  rintro _ ⟨h0,hI⟩;exact absurd m3 (hI m m1 (by omega)))
 unfold F135;rw[g1,ob];exact⟨k,rfl,g2,g3,g4⟩
theorem F138_eq{p x:Int}(hp:IsP p)(h1:1≤x)(h2:x < p):∃k,F138 p x=some k∧0≤k∧k < p∧Cg p (x*k) 1:=by
 have hr:=hp.range;obtain⟨m,m1,m2,m3⟩:=inv_ex hp h1 h2;obtain⟨t,g1,g2,g3,g4⟩:=qQ (S:=F138_1_S p x) (fun v=>(m - v).toNat) (fun v=> 1≤v∧v≤m) (fun t=> 0≤t∧t < p∧Cg p (x*t) 1) (s:=1) ⟨by decide,m1⟩ (by
  rintro v ⟨v1,v2⟩;unfold F138_1_S;have hm:=rng_mul hr (show 0≤v∧v < p by omega) (show 0≤x∧x < p by omega);rw[ql (by omega) (by omega),ob,jR (by omega),ob,tmod_pos hm.1];by_cases h:v*x% p=1
  ·right
   rw[if_pos h];exact⟨_,rfl,by omega,by omega,by rw[Int.mul_comm]; exact cg_one hr h⟩
  ·left
   have hne:v≠m:=fun e=> by rw[e]at h; exact h m3
   rw[if_neg h,ql (by omega) (by omega),ob];exact⟨_,rfl,⟨by omega,by omega⟩,by omega⟩)
 unfold F138;rw[g1,ob];exact⟨t,rfl,g2,g3,g4⟩
theorem F139_eq{p k:Int}{w:Nat}(hp:2≤p∧p≤7)(hk:0≤k∧k < p){r o:L1}(hr:qD p w r)(ho:qD p w o)(hw:w≤1048576):F139 r o p k=some (subv p r o k):=by
 have hl:=hr.len;have hol:=ho.len;unfold F139;rw[show(o.length:Int)=(r.length:Int) by omega,idx_loop (l:=r) (B:=F139_1_B o p k) (D:=F139_1_D) (fun i x=>(x - k*nth o i)% p) (by omega) (fun i hi s hs hk'=>?_) (fun i s=> rfl)]
 ·congr 1
  have hsl:(subv p r o k).length=w:=by simp[subv,hl,hol]
  apply yO (by simp[hl,hsl]);intro i h1 h2;have hi:i < w:=by omega
  have:=zE (p:=p) (k:=k) hl hol hi;rw[qP h2,qP (show i < r.length by omega)]at this;rw[this]; simp
 ·have h1:s[i]? =r[i]?:=by rw[hk' i,if_neg (Nat.lt_irrefl _)]
  have h2:s[i]'(by omega)=r[i]:=by
   have:=h1;rw[gB (by omega),gB hi]at this;exact wA this
  have a1:=hr.rng i (by omega);rw[qP hi]at a1;have a2:=ho.rng i (by omega);have hm:0≤(p - k)*nth o i∧(p - k)*nth o i≤49:=by
   refine⟨Int.mul_nonneg (by omega) a2.1,?_⟩;have:=Int.mul_le_mul (show p - k≤7 by omega) (show nth o i≤7 by omega) a2.1 (by decide);omega
  unfold F139_1_B;rw[zk (by omega),ob,qk (show i < s.length by omega),ob,h2,ql (by omega) (by omega),ob,ql (by omega) (by omega),ob,ql (by omega) (by omega),ob,jR (by omega),ob,zg (by omega),ob,tmod_pos (by omega)]
  congr 3
  exact Cg.emod ⟨nth o i,by grind⟩
theorem F134_eq{p:Int}{w:Nat}(hp:2≤p∧p≤7){R:L2}(hR:Red p w R){v:L1}(hv:qD p w v)(hw:w≤1048576)(hn:R.length≤1048576):F134 p R v=some (rest p R v):=by
 have aM:0 < p:=by omega
 unfold F134;rw[F94_eq (by rw[hv.len]; exact hw),ob];have key:∀i,i≤R.length→qD p w (rest p (R.take i) v):=fun i _=> jQ aM (fun r hr=> hR.ok r (wW hr)) hv;obtain⟨t,g1,g2⟩:=qy (B:=F134_1_B p R) (D:=F134_1_D p R) R.length rfl (by omega) (fun i s=> s=rest p (R.take i) v) (fun t=> t=rest p R v) (s:=v) rfl (by
  rintro i s hi rfl;left;refine⟨_,?_,rfl⟩;have hk:=key i (by omega);have hm:=wC hi;have hok:=hR.ok _ hm;have hone:=hR.one _ hm;unfold F134_1_B;rw[qk hi,ob,F81_ld (by rw[hok.len]; exact hw),if_pos (by rw[hok.len]; exact hone.1),ob,zk (by rw[hk.len]; exact hone.1),ob,F136_eq hp (hk.rng _ hone.1) hk hok hw,ob]
  congr 2
  rw[←wZ hi];unfold rest;rw[List.foldl_append]; rfl) (by
  rintro s rfl;exact⟨_,rfl,by rw[vK]⟩)
 rw[g1,ob,g2]
theorem ins_cons{p:Int}{own:L1}{a:Nat}{o:L1}{out:L2}:ins p own a (o::out)=if a < ld o then own::insF p own a o::out.map (insF p own a)else insF p own a o::ins p own a out:=rfl
theorem F131_3_eq{p:Int}{w a:Nat}(hp:2≤p∧p≤7){out:L2}{own:L1}(hR:Red p w out)(n:New p w out own a)(hw:w≤1048576)(hn:out.length≤1000000):
  ∃nx put,forR 0 (out.length:Int) (F131_3_B p out own a) F131_3_D ([],false)=some (nx,put)∧(if put=true then nx else nx++[own])=ins p own a out∧nx.length≤2000000:=by
 obtain⟨t,g1,g2,g3⟩:=qy (B:=F131_3_B p out own a) (D:=F131_3_D) out.length rfl (by omega) (fun i s=> s.1.length≤2*i∧(s.2=true→s.1++(out.drop i).map (insF p own a)=ins p own a out)∧(s.2=false→s.1++ins p own a (out.drop i)=ins p own a out))
  (fun t=>(if t.2=true then t.1 else t.1++[own])=ins p own a out∧t.1.length≤2000000) (s:=([],false)) ⟨by simp,by simp,by simp⟩ (by
  rintro i ⟨nx,put⟩ hi ⟨p1,p2,p3⟩;simp only at p1 p2 p3;left;have hm:=wC hi;have hok:=hR.ok _ hm;have hone:=hR.one _ hm;have hr:=hok.rng a n.lt;have hq:F136 p out[i] own (nth out[i] a)=some (insF p own a out[i]):=F136_eq hp hr hok n.ok hw;rw[yP hi]at p2 p3;unfold F131_3_B F131_3_C;simp only;cases put with
  |true=>
   have e:=p2 rfl;rw[if_pos rfl,ob,if_neg wD,ob,qk hi,ob,zk (by rw[hok.len]; exact n.lt),ob,hq,ob,qU (by simp; omega) (by simp; omega),ob];exact⟨_,rfl,by simp; omega,fun _=> by rw[←e]; simp only[vB,vE,vL,yI],fun h=> by cases h⟩
  |false=>
   have e:=p3 rfl;rw[if_neg wD,qk hi,ob,F81_ld (by rw[hok.len]; exact hw),if_pos (by rw[hok.len]; exact hone.1),ob,ob];by_cases h:a < ld out[i]
   ·have hd:decide ((a:Int) < (ld out[i]:Int))=true:=by simpa using h
    rw[ins_cons,if_pos h]at e;rw[hd,if_pos rfl,qU (by simp; omega) (by simp; omega),ob,ob,ob,zk (by rw[hok.len]; exact n.lt),ob,hq,ob,qU (by simp; omega) (by simp; omega),ob];exact⟨_,rfl,by simp; omega,fun _=> by rw[←e]; simp only[vB,vE,vL,yI],fun h=> by cases h⟩
   ·have hd:decide ((a:Int) < (ld out[i]:Int))=false:=by simpa using h
    rw[ins_cons,if_neg h]at e;rw[hd,if_neg wD,ob,ob,zk (by rw[hok.len]; exact n.lt),ob,hq,ob,qU (by simp; omega) (by simp; omega),ob];exact⟨_,rfl,by simp; omega,(fun h=> by cases h),fun _=> by rw[←e]; simp only[vE,vL,yI]⟩) (by
  rintro⟨nx,put⟩ ⟨p1,p2,p3⟩;simp only at p1 p2 p3;refine⟨_,rfl,?_,by simp only; omega⟩;rw[List.drop_length]at p2 p3;cases put with
  |true=> simpa using p2 rfl
  |false=> simpa[ins]using p3 rfl)
 exact⟨t.1,t.2,g1,g2,g3⟩
theorem F131_ech{p:Int}{w:Nat}(hp:IsP p){rows:L2}(hr:Rows p w rows)(hw:w≤1048576)(hn:rows.length≤1000000):∃out,F131 p rows=some out∧zN p w rows out:=by
 have hpr:=hp.range;have cX:1 < p:=by omega
 obtain⟨t,g1,g2,g3⟩:=qy (B:=F131_1_B p rows) (D:=F131_1_D) rows.length rfl (by omega) (fun i s=> zN p w (rows.take i) s∧s.length≤i) (fun t=> zN p w rows t∧t.length≤rows.length) (s:=[]) ⟨.nil p w,wE _⟩ (by
  rintro i out hi ⟨p1,p2⟩;left;have hrow:=hr _ (wC hi);have hrt:Rows p w (rows.take i):=fun r h=> hr r (wW h);have hrest:=jQ (show 0 < p by omega) p1.red.ok hrow;have hl:¬(ld (rest p out rows[i]) < w)∨ld (rest p out rows[i]) < w:=by omega
  unfold F131_1_B;rw[qk hi,ob,F134_eq hpr p1.red hrow hw (by omega),ob,F81_ld (by rw[hrest.len]; exact hw),ob,hrest.len];rcases hl with hl|hl
  ·rw[if_neg hl,if_pos (by decide)]
   refine⟨out,rfl,?_,by omega⟩;rw[←wZ hi];exact p1.skip cX hrt hrow fun j hj=> zp (by omega)
  ·rw[if_pos hl,if_neg (by omega)]
   have hne:=ld_ne (r:=rest p out rows[i]) (by rw[hrest.len]; exact hl);have hrg:=hrest.rng _ hl;obtain⟨k,k1,k2,k3,k4⟩:=F135_eq hp (x:=nth (rest p out rows[i]) (ld (rest p out rows[i]))) (by omega) hrg.2;have n:=p1.new cX hrow hl (fun j hj=> zp hj) k4;obtain⟨nx,put,q1,q2,q3⟩:=F131_3_eq hpr p1.red n hw (by omega);have hlen:((rest p out rows[i]).length:Int)=(w:Int):=by rw[hrest.len]
   have hsc:=scl_loop hpr ⟨k2,k3⟩ hrest hw (B:=F131_2_B p k) (D:=F131_2_D) (fun i row=> rfl) (fun i s=> rfl);have hput:=p1.put cX hrt hrow hl (fun j hj=> zp hj) k4;rw[wZ hi]at hput;rw[zk (by rw[hrest.len]; exact hl),ob,k1,ob,←hlen,hsc,ob,q1,ob];simp only;cases put with
   |true=>
    rw[if_pos rfl]at q2 ⊢;rw[q2];exact⟨_,rfl,hput,by rw[ins_len]; omega⟩
   |false=>
    rw[if_neg wD]at q2 ⊢;rw[qU (by simp; omega) (by simp; omega),ob,q2];exact⟨_,rfl,hput,by rw[ins_len]; omega⟩) (by
  rintro out ⟨p1,p2⟩;rw[vK]at p1;exact⟨_,rfl,p1,p2⟩)
 exact⟨t,g1,g2⟩
theorem F128_first{l:L2}{f:L1→Option Bool}(P:L1→Bool)(hl:l.length≤1048576)(hf:∀x∈l,f x=some (P x)):∃i:Int,F128 l f=some i∧((i= -1∧∀x∈l,P x=false)∨∃m:Nat,i=m∧m < l.length∧P (qi l m)=true):=by
 unfold F128;obtain⟨t,h1,h2⟩:=qy (B:=xS l f) (D:=F128_1_D l f) (hi:=l.length) l.length rfl (by omega) (fun i _=>∀k (hk:k < i) (h2:k < l.length),P l[k]=false) (fun t=>(t= .inl ()∧∀x∈l,P x=false)∨∃m:Nat,t= .inr (m:Int)∧m < l.length∧P (qi l m)=true) (s:=()) (fun k hk=> by omega) (by
  intro i _ hi hI;unfold xS;rw[qk hi,ob,hf _ (wC hi),ob];cases hp:P l[i]with
  |true=> right; exact⟨_,rfl,.inr ⟨i,rfl,hi,by rw[qC hi]; exact hp⟩⟩
  |false=>
   left;refine⟨(),rfl,fun k hk h2=>?_⟩;by_cases e:k=i
   ·subst e; exact hp
   ·exact hI k (by omega) h2) (by
  intro _ hI;refine⟨.inl (),rfl,.inl ⟨rfl,fun x hx=>?_⟩⟩;obtain⟨k,hk,rfl⟩:=wK hx;exact hI k hk hk)
 rw[h1,ob];rcases h2 with⟨rfl,h2⟩|⟨m,rfl,h2⟩
 ·exact⟨_,rfl,.inl ⟨rfl,h2⟩⟩
 ·exact⟨_,rfl,.inr ⟨m,rfl,h2⟩⟩
theorem gstep_loop{p:Int}{w c d:Nat}(hp:2≤p∧p≤7){l:L2}{row:L1}(hl:Rows p w l)(hd:d < l.length)(hrow:qi l d=row)(hc:c < w)(hw:w≤1048576)(hn:l.length≤1000000):
  forR 0 (l.length:Int) (F133_4_B p c d) F133_4_D l=some (jA p c d row l):=by
 have hdr:=hl _ (zx hd);rw[hrow]at hdr;rw[idx_loop (l:=l) (B:=F133_4_B p c d) (D:=F133_4_D) (fun i r=> if i=d then r else subv p r row (nth r c)) (by omega) (fun i hi s hs hk=>?_) (fun i s=> rfl)]
 ·unfold jA
  congr 1
  have:l.set d row=l:=by
   rw[←hrow,qC hd]; exact List.set_getElem_self hd
  rw[this]
 ·have h1:s[i]'(by omega)=l[i]:=by
   have:=hk i;rw[if_neg (Nat.lt_irrefl _),gB (by omega),gB hi]at this;exact wA this
  have h2:s[d]'(by omega)=row:=by
   have:=hk d;rw[gB (by omega),gB hd]at this;rw[←hrow,qC hd];split at this
   ·simpa using this
   ·exact wA this
  unfold F133_4_B;by_cases e:i=d
  ·subst e
   rw[if_pos rfl,if_pos rfl,←h1,List.set_getElem_self]
  ·have hr:=hl _ (wC hi)
   have hrc:=hr.rng c hc;rw[if_neg (by omega),if_neg e,qk (show i < s.length by omega),ob,qk (show d < s.length by omega),ob,h1,h2,zk (by rw[hr.len]; exact hc),ob,F139_eq hp hrc hr hdr hw,ob,zg (by omega),ob]
theorem F133_ech{p:Int}{w:Nat}(hp:IsP p){rows:L2}(hr:Rows p w rows)(hw:w≤1048576)(hn:rows.length≤1000000):∃out,F133 p rows=some out∧zN p w rows out:=by
 have hpr:=hp.range;have cX:1 < p:=by omega
 unfold F133;rw[cpy_loop (l:=rows) (B:=F133_1_B rows) (D:=F133_1_D) (by omega) (fun i hi s hs=> by
  unfold F133_1_B;have:=hr _ (wC hi);rw[qk hi,ob,F96_eq (by rw[this.len]; exact hw),ob,qU (by simp; omega) (by simp; omega),ob]) (fun i s=> rfl),ob]
 by_cases h0:(rows.length:Int)=0
 ·rw[if_pos h0]
  have:rows=[]:=wU (by omega);subst this;exact⟨_,rfl,.nil p w⟩
 rw[if_neg h0];have hpos:0 < rows.length:=by omega
 have e0:=qk hpos;simp only[Int.natCast_zero]at e0;have hw0:=(hr _ (wC hpos)).len;rw[show(0:Int)=((0:Nat):Int) from rfl,qk hpos,ob];obtain⟨t,g1,g2,g3,g4⟩:=qy (B:=F133_2_B p) (D:=F133_2_D) (hi:=(rows[0].length:Int)) w (by rw[hw0]) (by omega) (fun c s=>∃d:Nat,s.2=d∧d < s.1.length∧s.1.length=rows.length∧GInv p w rows c s.1 d)
  (fun t=> zN p w rows (t.1.take t.2.toNat)∧0≤t.2∧t.2≤t.1.length) (s:=(rows,0)) ⟨0,rfl,hpos,rfl,.start hr⟩ (by
  rintro c ⟨l,dd⟩ hc ⟨d,p1,p2,p3,g⟩;simp only at p1 p2 p3 g;subst p1;have hrl:∀x∈l.drop d,(fun r=> F137 r (c:Int)) x=some (!decide (nth x c=0)):=fun x hx=> by
   have hx':=g.ok x (vR hx);show F137 x c=_;unfold F137;rw[zk (by rw[hx'.len]; exact hc),ob]
  obtain⟨at_,a1,a2⟩:=F128_first (fun x=> !decide (nth x c=0)) (l:=l.drop d) (by simp; omega) hrl;unfold F133_2_B;simp only;rw[if_pos ⟨by omega,by omega⟩,vU,a1,ob];rcases a2 with⟨rfl,a2⟩|⟨m,rfl,a2,a3⟩
  ·rw[if_pos (by decide)]
   left;refine⟨_,rfl,d,rfl,p2,p3,g.skip hc fun i h1 h2=>?_⟩;have hx:qi l i∈l.drop d:=by
    rw[qC h2,List.mem_iff_getElem];exact⟨i - d,by simp; omega,by simp[show d+(i - d)=i by omega]⟩
   simpa using a2 _ hx
  ·have hml:m < l.length - d:=by simpa using a2
   have hj:d+m < l.length:=by omega
   have hrm:qi (l.drop d) m=qi l (d+m):=by rw[qC a2,qC hj,List.getElem_drop]
   rw[hrm]at a3;have hne:nth (qi l (d+m)) c≠0:=by simpa using a3
   have hrj:=g.ok _ (zx hj);have hrg:=hrj.rng c hc;obtain⟨k,k1,k2,k3,k4⟩:=F138_eq hp (x:=nth (qi l (d+m)) c) (by omega) hrg.2
   -- the swapped list
   have aw:((l.set d (qi l (d+m))).set (d+m) (qi l d)).length=l.length:=by simp
   have h2:∀i,i < l.length→qi ((l.set d (qi l (d+m))).set (d+m) (qi l d)) i=qi l (if i=d+m then d else if i=d then d+m else i):=fun i hi=> by
    rw[qC (by simp; exact hi)];by_cases e:i=d+m
    ·subst e; rw[if_pos rfl]; simp
    ·rw[if_neg e,List.getElem_set_ne (yK e)]
     by_cases e2:i=d
     ·subst e2; rw[if_pos rfl]; simp
     ·rw[if_neg e2,List.getElem_set_ne (yK e2),qC hi]
   have gp:=g.put cX hc (show d≤d+m by omega) hj k4 aw h2;have hrd:qi ((l.set d (qi l (d+m))).set (d+m) (qi l d)) d=qi l (d+m):=by
    rw[h2 d p2];by_cases e:d=d+m
    ·rw[if_pos e,←e]
    ·rw[if_neg e,if_pos rfl]
   generalize hl2:(l.set d (qi l (d+m))).set (d+m) (qi l d)=l2 at*;have hsc:=scl_loop hpr ⟨k2,k3⟩ hrj hw (B:=F133_3_B p k) (D:=F133_3_D) (fun i row=> rfl) (fun i s=> rfl);have tJ:Rows p w (l2.set d (scl p (qi l (d+m)) k)):=fun r hr'=> by
    rcases List.mem_or_eq_of_mem_set hr' with q|q
    ·obtain⟨i,hi,rfl⟩:=mem_row.1 q
     rw[h2 i (by omega)];refine g.ok _ (zx ?_);split
     ·exact p2
     ·split
      ·exact hj
      ·omega
    ·rw[q]; exact scl_ok (by omega) hrj k
   have hs3:(l2.set d (scl p (qi l (d+m)) k)).length=l.length:=by simp[aw]
   have hr3:qi (l2.set d (scl p (qi l (d+m)) k)) d=scl p (qi l (d+m)) k:=by rw[qC (by omega)]; simp
   have hgl:=gstep_loop hpr tJ (show d < _ by omega) hr3 hc hw (by omega);have hgs:jA p c d (scl p (qi l (d+m)) k) (l2.set d (scl p (qi l (d+m)) k))=jA p c d (scl p (qi l (d+m)) k) l2:=by unfold jA; rw[List.set_set]
   rw[hgs]at hgl;have hlen4:(jA p c d (scl p (qi l (d+m)) k) l2).length=l.length:=by rw[gstep_len]; exact aw
   have e1:getI l ((d+m:Nat):Int)=some (qi l (d+m)):=by rw[qk hj,qC hj]
   have e2:getI l (d:Int)=some (qi l d):=by rw[qk p2,qC p2]
   have e3:getI l2 (d:Int)=some (qi l (d+m)):=by rw[qk (by omega),←qC (by omega),hrd]
   rw[if_neg (by omega),ql (by omega) (by omega),ob,show(d:Int)+(m:Int)=((d+m:Nat):Int) by omega,e1,ob,e2,ob,zg p2,ob,zg (by simp; omega),ob,hl2,e3,ob,
    zk (by rw[hrj.len]; exact hc),ob,k1,ob,hsc,ob,zg (by omega),ob,hgl,ob,ql (by omega) (by omega),ob]
   by_cases rL:(d:Int)+1=((jA p c d (scl p (qi l (d+m)) k) l2).length:Int)
   ·right
    rw[if_pos rL];refine⟨_,rfl,?_,by simp only; omega,by simp only; omega⟩;simp only;rw[show((d:Int)+1).toNat=d+1 by omega];exact gp.done cX (.inr (by omega))
   ·left
    rw[if_neg rL];refine⟨_,rfl,d+1,by simp only; omega,by simp only; have:=gp.dn; omega,by simp only; omega,gp⟩) (by
  rintro⟨l,dd⟩ ⟨d,p1,p2,p3,g⟩;simp only at p1 p2 p3 g;subst p1;refine⟨_,rfl,?_,by simp only; omega,by simp only; omega⟩;simp only;rw[vU];exact g.done cX (.inl rfl))
 rw[show((0:Nat):Int)=(0:Int) from rfl,g1,ob,if_pos ⟨g3,g4⟩];exact⟨_,rfl,g2⟩
theorem zy{p:Int}{w:Nat}(hp:IsP p){rows:L2}(hr:Rows p w rows)(hw:w≤1048576)(hn:rows.length≤1000000):∃out,F131 p rows=some out∧F133 p rows=some out∧zN p w rows out:=by
 obtain⟨a,a1,a2⟩:=F131_ech hp hr hw hn;obtain⟨b,b1,b2⟩:=F133_ech hp hr hw hn;have:=a2.same (by have:=hp.range; omega) b2;subst this;exact⟨a,a1,b1,a2⟩
theorem F133_self{p:Int}{w:Nat}(hp:IsP p){E:L2}(h:Red p w E)(hw:w≤1048576)(hn:E.length≤1000000):F133 p E=some E:=by
 obtain⟨X, -,x2,x3⟩:=zy hp h.ok hw hn;rw[x2,x3.same (by have:=hp.range; omega) (zN.self h)]
theorem jk{p:Int}{w:Nat}{E:L2}(h:Red p w E):E.length≤w:=by
 have h1:=h.leads;have key:∀ (l:List Nat) (b:Nat),l.Pairwise (·< ·)→(∀x∈l,b≤x∧x < w)→l.length+b≤max w b:=by
  intro l;induction l with
  |nil=> intro b _ _; simp; omega
  |cons a l ih=>
   intro b hp hx;obtain⟨p1,p2⟩:=vG.1 hp;have ha:=hx a wG;have:=ih (a+1) p2 fun x hx'=>⟨p1 x hx',(hx x (wI _ hx')).2⟩;simp only[vF];omega
 have:=key (E.map ld) 0 h1 fun x hx=> by
  obtain⟨r,hr,rfl⟩:=wQ.1 hx;exact⟨vD _,(h.one r hr).1⟩
 simpa using this
theorem set_app_right{r s:L1}{i:Nat}(x:Int):(r++s).set (r.length+i) x=r++s.set i x:=by
 rw[List.set_append_right _ _ (by omega)]; simp
theorem F125_1_eq{p:Int}{w:Nat}{rows:L2}(hr:Rows p w rows){x2:L1}(hx:x2.length=w)(hw:w≤1000)(hn:rows.length≤1000):
  forR 0 (rows.length:Int) (F125_1_B p rows x2) (F125_1_D p rows x2) []=some (jl rows.length rows):=by
 have hl:=longs_len rows.length rows;obtain⟨t,g1,g2⟩:=qy (B:=F125_1_B p rows x2) (D:=F125_1_D p rows x2) rows.length rfl (by omega) (fun i s=> s=(jl rows.length rows).take i) (fun t=> t=jl rows.length rows) (s:=[]) (by simp) (by
  rintro i s hi rfl;left;have hri:=hr _ (wC hi);refine⟨(jl rows.length rows).take (i+1),?_,rfl⟩;unfold F125_1_B appZ;have hz:List.replicate ((rows.length:Int)).toNat (0:Int)=zv rows.length:=by simp[zv]
  have hzl:(zv rows.length).length=rows.length:=by simp[zv]
  have e:((x2.length:Int)+(i:Int))=((rows[i].length+i:Nat):Int):=by rw[hx,hri.len]; omega
  rw[qk hi,ob,F96_eq (by rw[hri.len]; omega),ob,if_pos ⟨by omega,by omega,by omega⟩,hz,qU (by rw[hri.len,hzl]; omega) (by rw[hri.len,hzl]; omega),ob,ql (by rw[hx]; omega) (by rw[hx]; omega),ob,e,qk (by rw[wR,hzl]; omega),ob,
   zg (by rw[wR,hzl]; omega),ob,qU (by simp; omega) (by simp; omega),ob,set_app_right]
  congr 2
  rw[←wZ (show i < (jl rows.length rows).length by omega),longs_at,qC hi];rfl) (by
  rintro s rfl;exact⟨_,rfl,by rw[wT (by omega)]⟩)
 rw[g1,g2]
theorem F122_1_eq{p:Int}{w:Nat}{rows:L2}(hr:Rows p w rows)(hw:w≤1000)(hn:rows.length≤1000):
  forR 0 (rows.length:Int) (F122_1_B p rows.length rows) (F122_1_D p rows.length rows) ([],0)=some (jl rows.length rows,if rows.length=0 then 0 else(w:Int)):=by
 have hl:=longs_len rows.length rows;obtain⟨t,g1,g2⟩:=qy (B:=F122_1_B p rows.length rows) (D:=F122_1_D p rows.length rows) rows.length rfl (by omega) (fun i s=> s=((jl rows.length rows).take i,if i=0 then 0 else(w:Int))) (fun t=> t=(jl rows.length rows,if rows.length=0 then 0 else(w:Int))) (s:=([],0)) (by simp) (by
  rintro i s hi rfl;left;have hri:=hr _ (wC hi);refine⟨((jl rows.length rows).take (i+1),if i+1=0 then 0 else(w:Int)),?_,rfl⟩;unfold F122_1_B;simp only;have hzl:(zv rows.length).length=rows.length:=by simp[zv]
  rw[mkL_ok rows.length rfl (by omega) (by omega),ob]
  change (getI (zv rows.length) (i:Int)).bind _=_
  rw[qk (by omega),ob]
  change (setI (zv rows.length) (i:Int) 1).bind _=_
  rw[zg (by omega),ob,qk hi,ob,F94_eq (by rw[hri.len]; omega),ob,qU (by simp[zv,hri.len]; omega) (by simp[zv,hri.len]; omega),ob,qU (by simp; omega) (by simp; omega),ob,if_neg (by omega),hri.len]
  congr 3
  rw[←wZ (show i < (jl rows.length rows).length by omega),longs_at,qC hi];rfl) (by
  rintro s rfl;exact⟨_,rfl,by rw[wT (by omega)]⟩)
 rw[g1,g2]
theorem tails_take{w i:Nat}{E:L2}(hi:i < E.length):zQ w (E.take (i+1))=if w≤ld E[i]then zQ w (E.take i)++[E[i].drop w]else zQ w (E.take i):=by
 unfold zQ;rw[←wZ hi,List.filter_append,uB];by_cases h:w≤ld E[i]
 ·rw[if_pos h]; simp[h]
 ·rw[if_neg h]; simp[h]
theorem tails_len{w:Nat}{E:L2}:(zQ w E).length≤E.length:=by
 unfold zQ;rw[vX]; exact List.length_filter_le _ _
theorem F122_2_eq{p:Int}{w n:Nat}{E:L2}(h:Red p (w+n) E)(hw:w+n≤10000):
  forR 0 (E.length:Int) (xl w E) (xT w E) []=some (zQ w E):=by
 have hE:=jk h;obtain⟨t,g1,g2⟩:=qy (B:=xl w E) (D:=xT w E) E.length rfl (by omega) (fun i s=> s=zQ w (E.take i)) (fun t=> t=zQ w E) (s:=[]) (by simp[zQ]) (by
  rintro i s hi rfl;left;have hk:=h.ok _ (wC hi);have ho:=h.one _ (wC hi);have htl:(zQ w (E.take i)).length≤10000:=by have:=tails_len (w:=w) (E:=E.take i); simp at this; omega
  refine⟨zQ w (E.take (i+1)),?_,rfl⟩;rw[tails_take hi];unfold xl;rw[qk hi,ob,F81_ld (by rw[hk.len]; omega),if_pos (by rw[hk.len]; exact ho.1),ob];by_cases q:w≤ld E[i]
  ·rw[if_pos (by omega),if_pos q]
   unfold slI;rw[if_pos ⟨by omega,by rw[hk.len]; omega,yE _⟩,ob,vU,vU,vK,F94_eq (by simp[hk.len]; omega),ob,qU (by simp; omega) (by simp; omega),ob]
  ·rw[if_neg (by omega),if_neg q]) (by
  rintro s rfl;exact⟨_,rfl,by rw[vK]⟩)
 rw[g1,g2]
theorem isZero_take{r:L1}{w:Nat}(h:w≤r.length):(∀x∈r.take w,x=0)↔w≤ld r:=by
 constructor
 ·intro hx
  refine Nat.le_of_not_lt fun q=>?_;have hl:ld r < r.length:=by omega
  refine ld_ne hl (by rw[qP hl]; exact hx _ (List.mem_take_iff_getElem.2 ⟨ld r,by omega,rfl⟩))
 ·intro q x hx
  obtain⟨i,hi,rfl⟩:=List.mem_take_iff_getElem.1 hx;have:=zp (r:=r) (j:=i) (by omega)
  rwa[qP (by omega)]at this
theorem F125_2_eq{p:Int}{w n:Nat}{E:L2}(h:Red p (w+n) E)(hw:w+n≤10000){x2:L1}(hx:x2.length=w):
  forR 0 (E.length:Int) (F125_2_B p x2 E) (F125_2_D p x2 E) []=some (zQ w E):=by
 have hE:=jk h;obtain⟨t,g1,g2⟩:=qy (B:=F125_2_B p x2 E) (D:=F125_2_D p x2 E) E.length rfl (by omega) (fun i s=> s=zQ w (E.take i)) (fun t=> t=zQ w E) (s:=[]) (by simp[zQ]) (by
  rintro i s hi rfl;left;have hk:=h.ok _ (wC hi);have ho:=h.one _ (wC hi);have htl:(zQ w (E.take i)).length≤10000:=by have:=tails_len (w:=w) (E:=E.take i); simp at this; omega
  refine⟨zQ w (E.take (i+1)),?_,rfl⟩;rw[tails_take hi];unfold F125_2_B slI;rw[qk hi,ob,hx,if_pos ⟨by omega,by omega,by rw[hk.len]; omega⟩,ob,vU,Int.toNat_zero,vN];rcases((F92_tells (l:=E[i].take w) (by simp; omega)).iff (isZero_take (by rw[hk.len]; omega))).case with⟨e,q⟩|⟨e,q⟩
  ·rw[e,ob,if_pos rfl,if_pos q,if_pos ⟨by omega,by rw[hk.len]; omega,yE _⟩,ob,vU,vK,qU (by simp; omega) (by simp; omega),ob]
  ·rw[e,ob,if_neg wD,if_neg q]) (by
  rintro s rfl;exact⟨_,rfl,by rw[vK]⟩)
 rw[g1,g2]
theorem kernel_same{p:Int}{w:Nat}(hp:IsP p){rows:L2}(hr:Rows p w rows)(hw:w≤1000)(hn:rows.length≤1000):∃K,F122 p rows.length rows=some K∧F125 p rows=some K∧Red p rows.length K:=by
 have cX:1 < p:=by have:=hp.range; omega
 unfold F122 F125;rw[F122_1_eq hr hw hn,ob];simp only;by_cases h0:rows.length=0
 ·have:rows=[]:=wU h0
  subst this;have e:(jl ([]:L2).length [])=[]:=by simp[jl]
  obtain⟨E,e1, -,e3⟩:=zy hp (rows:=[]) (w:=0+0) (fun r h=>(nomatch h)) (by omega) (by simp);have hE:E=[]:=wU (by have:=jk e3.red; omega);subst hE;rw[e,e1,ob,if_pos (by simp),if_pos (by simp)];have:=F122_2_eq (w:=0) (n:=0) e3.red (by omega);have h2:forR 0 ((([]:L2).length:Nat):Int) (xl 0 []) (xT 0 []) []=some []:=this;rw[h2];exact⟨[],rfl,rfl,⟨fun r h=>(nomatch h),fun r h=>(nomatch h),.nil⟩⟩
 ·rw[if_neg h0,if_neg (by omega)]
  obtain⟨E,e1,e2,e3⟩:=zy hp (longs_ok cX hr) (by omega) (by rw[longs_len]; omega);have hpos:0 < rows.length:=by omega
  have am:=(hr _ (wC hpos)).len;have ht:=tails_red e3.red;rw[show(0:Int)=((0:Nat):Int) from rfl,qk hpos,ob,show((0:Nat):Int)=(0:Int) from rfl,e1,ob,F122_2_eq e3.red (by omega),ob,F125_1_eq hr am hw hn,ob,e2,ob,F125_2_eq e3.red (by omega) am,ob,F133_self hp ht (by omega) (by have:=jk ht; omega),ob];exact⟨_,rfl,rfl,ht⟩
theorem RowOK.vec{p w:Int}{row:L1}(h:RowOK p w row):qD p w.toNat row:=by
 have h1:=h.1;refine⟨by omega,fun j hj=>?_⟩;have hj':j < row.length:=by omega
 rw[qP hj'];have:=h.2 _ (wC hj');omega
theorem qS.dim{x:qa}(h:qS x){n:Nat}(hn:n < x.D.length):0≤x.D.getD n 0∧x.D.getD n 0≤8:=h.dims _ (qV hn 0)
theorem F99_at{x:qa}(hs:x.D.length≤1048576){n:Nat}(hn:n < x.D.length):F99 x (n:Int)=some (x.D.getD n 0):=by
 unfold F99;rw[ql (by omega) (by omega),ob,F54_eq,ob,if_pos (by simp; omega),qh hn 0,ob]
theorem F102_at{x:qa}(hs:x.D.length≤1048576){n:Nat}(hn:n < x.D.length):F102 x (n:Int)=some (x.D.getD n 0):=by
 unfold F102;rw[ji hs,ob,F56_eq,ob,if_pos (by simp; omega),qh hn 0,ob]
theorem F124_eq{n:Nat}(hn:n≤1000):F124 (n:Int)=some (zJ n):=by
 unfold F124;have hl:=jv n;obtain⟨t,g1,g2⟩:=qy (B:=F124_1_B (n:Int)) (D:=F124_1_D (n:Int)) n rfl (by omega) (fun i s=> s=(zJ n).take i) (fun t=> t=zJ n) (s:=[]) (by simp) (by
  rintro i s hi rfl;left;refine⟨(zJ n).take (i+1),?_,rfl⟩;have hzl:(zv n).length=n:=by simp[zv]
  unfold F124_1_B F132;rw[mkL_ok n rfl (by omega) (by omega),ob]
  change (((getI (zv n) (i:Int)).bind _).bind _=_)
  rw[qk (by omega),ob]
  change (((setI (zv n) (i:Int) 1).bind _).bind _=_)
  rw[zg (by omega),ob,ob,qU (by simp; omega) (by simp; omega),ob]
  congr 2
  rw[←wZ (show i < (zJ n).length by omega)]
  congr 2
  simp[zJ,zH]) (by
  rintro s rfl;exact⟨_,rfl,by rw[wT (by omega)]⟩)
 rw[g1,ob,g2]
theorem kernel_none{p:Int}(hp:IsP p){n:Nat}(hn:n≤1000):F122 p (n:Int) (List.replicate n [])=some (zJ n):=by
 have cX:1 < p:=by have:=hp.range; omega
 have hr:Rows p 0 (List.replicate n ([]:L1)):=fun r hr=> by
  obtain⟨_,rfl⟩:=List.mem_replicate.1 hr;exact⟨rfl,fun j hj=> absurd hj (yH _)⟩
 have hl:(List.replicate n ([]:L1)).length=n:=by simp
 have e0:=F122_1_eq hr (by omega) (by omega);rw[hl]at e0;have hlong:jl n (List.replicate n ([]:L1))=zJ n:=by
  unfold jl zJ;refine yQ fun i hi=>?_;have:i < n:=wX.1 hi;simp[qi,this]
 have hu:=units_red cX n;obtain⟨E,e1, -,e3⟩:=zy hp hu.ok (by omega) (by rw[jv]; omega);have hE:=e3.same cX (zN.self hu);subst hE;have ht:zQ 0 (zJ n)=zJ n:=by
  unfold zQ;rw[List.filter_eq_self.2 (fun r _=> by simp)]
  conv=> rhs; rw[←List.map_id (zJ n)]
  exact yQ fun r _=> rfl
 have h2:=F122_2_eq (w:=0) (n:=n) (by rw[wV]; exact hu) (by omega);rw[ht]at h2;have h2':forR 0 ((zJ n).length:Int) (xl 0 (zJ n)) (xT 0 (zJ n)) []=some (zJ n):=h2;unfold F122;rw[e0,ob];have hz:(if n=0 then(0:Int)else((0:Nat):Int))=0:=by split <;> rfl
 simp only;rw[hz,hlong,e1,ob,h2',ob]
theorem F76_0{x:qa}(hs:x.D.length≤1048576)(hl:0 < x.D.length){n:Nat}(hn:x.D.getD 0 0=n)(hn8:n≤1000):F76 x 0=some (List.replicate n []):=by
 unfold F76;rw[ql (by omega) (by omega),ob,F54_eq,ob,if_neg (by simp)];have dm:F99 x 0=some (n:Int):=by have:=F99_at hs hl; rw[hn]at this; exact this
 obtain⟨t,g1,g2⟩:=qQ (S:=F76_1_S x 0) (fun s=>(n - s.2).toNat) (fun s=> 0≤s.2∧s.2≤n∧s.1=List.replicate s.2.toNat []) (fun t=> t=List.replicate n []) (s:=([],0)) ⟨yE _,by omega,rfl⟩ (by
  rintro⟨l,j⟩ ⟨p1,p2,p3⟩;simp only at p1 p2 p3;subst p3;unfold F76_1_S;simp only;rw[dm,ob];by_cases hj:j < (n:Int)
  ·left
   rw[if_pos hj,qU (by simp; omega) (by simp; omega),ob,ql (by omega) (by omega),ob];refine⟨_,rfl,⟨by simp only; omega,by simp only; omega,?_⟩,by simp only; omega⟩;simp only;rw[show(j+1).toNat=j.toNat+1 from by omega,List.replicate_succ']
  ·right
   rw[if_neg hj];have:j.toNat=n:=by omega
   rw[this];exact⟨_,rfl,rfl⟩)
 rw[g1,ob,g2]
theorem cycles_same{x:qa}(hx:qJ x)(h:qS x){n:Nat}(hn:n < x.D.length):∃K,F98 x (n:Int)=some K∧F100 x (n:Int)=some K∧Red x.P (x.D.getD n 0).toNat K:=by
 have cX:1 < x.P:=by have:=h.p.range; omega
 have hd:=h.dim hn;have hml:=h.ml;have hxd:=hx.d;unfold F98 F100;rw[F99_at hx.d hn,ob];rcases Nat.eq_zero_or_pos n with h0|h0
 ·subst h0
  have hdn:x.D.getD 0 0=((x.D.getD 0 0).toNat:Int):=by omega
  rw[if_pos (by omega),show((0:Nat):Int)=0 from rfl,F76_0 hx.d hn hdn (by omega),ob,hdn,vU,kernel_none h.p (by omega),ob];have ay:=F102_at hx.d hn;rw[hdn]at ay;rw[show(0:Int)=((0:Nat):Int) from rfl,ay,ob,F124_eq (by omega),ob];exact⟨_,rfl,rfl,units_red cX _⟩
 ·obtain⟨k,rfl⟩:∃k,n=k+1:=⟨n - 1,by omega⟩
  have hk:k < x.M.length:=by omega
  have ht:=h.tab k hk;have hdk:=h.dim (show k < x.D.length by omega);have e1:getI x.M (k:Int)=some (x.M.getD k []):=qh hk [];have hr:Rows x.P (x.D.getD k 0).toNat (x.M.getD k []):=fun r hr=>(ht.2 r hr).vec;have mj:F76 x ((k+1:Nat):Int)=some (x.M.getD k []):=by
   unfold F76;rw[ql (by omega) (by omega),ob,F54_eq,ob,if_pos (by simp; omega),ql (by omega) (by omega),ob,show((k+1:Nat):Int) - 1=(k:Int) by omega,e1,ob]
  have hlen:=ht.1;obtain⟨K,k1,k2,k3⟩:=kernel_same h.p hr (by omega) (by omega);rw[mj,ob,←hlen,k1,ob,if_neg (by omega),ji hx.d,ob,if_neg (by omega),ql (by omega) (by omega),ob,show((k+1:Nat):Int) - 1=(k:Int) by omega,e1,ob,k2,ob,vU];exact⟨_,rfl,rfl,k3⟩
theorem F115_ld{r:L1}(hl:r.length≤1048576)(h:ld r < r.length):F115 r (fun x=> F123 x)=some (ld r:Int):=by
 unfold F115;obtain⟨t,g1,g2⟩:=qy (B:=xU r (fun x=> F123 x)) (D:=F115_1_D r (fun x=> F123 x)) r.length rfl (by omega) (fun i _=> i≤ld r) (fun t=> t= .inr (ld r:Int)) (s:=()) (vD _) (by
  rintro i _ hi hI;unfold xU F123;rw[zk hi,ob,ob];by_cases q:nth r i=0
  ·left
   rw[if_neg (by simp[q])];refine⟨(),rfl,?_⟩;rcases wS i (ld r)with q2|q2
   ·exact q2
   ·have:i=ld r:=by omega
    subst this;exact absurd q (ld_ne hi)
  ·right
   rw[if_pos (by simp[q])];have:ld r=i:=by
    rcases wS i (ld r)with q2|q2
    ·exact absurd (zp q2) q
    ·omega
   exact⟨_,rfl,by rw[this]⟩) (by
  rintro _ hI;omega)
 rw[g1,ob,g2]
theorem F101_eq{p:Int}{w:Nat}{K:L2}(h:Red p w K)(hw:w≤1000):F101 K=some (K.map fun r=>(ld r:Int)):=by
 unfold F101;have hk:=jk h;obtain⟨t,g1,g2⟩:=qy (B:=F101_1_B K) (D:=F101_1_D K) K.length rfl (by omega) (fun i s=> s=(K.map fun r=>(ld r:Int)).take i) (fun t=> t=K.map fun r=>(ld r:Int)) (s:=[]) (by simp) (by
  rintro i s hi rfl;left;have hok:=h.ok _ (wC hi);have hone:=h.one _ (wC hi);refine⟨(K.map fun r=>(ld r:Int)).take (i+1),?_,rfl⟩;unfold F101_1_B;rw[qk hi,ob,F115_ld (by rw[hok.len]; omega) (by rw[hok.len]; exact hone.1),ob,qU (by simp; omega) (by simp; omega),ob]
  congr 2
  rw[←wZ (show i < (K.map fun r=>(ld r:Int)).length by simpa using hi)];simp) (by
  rintro s rfl;exact⟨_,rfl,by rw[wT (by simp)]⟩)
 rw[g1,ob,g2]
theorem forR_map{α β:Type}{l:List α}(g:α→β){B:Int→List β→Option (List β⊕List β)}{D:Int→List β→Option (List β)}{s0:List β}(hl:l.length≤1000000)
  (hB:∀ (k:Nat) (hk:k < l.length) (s:List β),s.length=s0.length+k→B k s=some (.inl (s++[g l[k]]))) (hD:∀i s,D i s=some s):forR 0 (l.length:Int) B D s0=some (s0++l.map g):=by
 have hlen:l.length < 4611686018427387904:=by omega
 obtain⟨t,g1,g2⟩:=qy (B:=B) (D:=D) l.length rfl hlen (fun i s=> s=s0++(l.map g).take i) (fun t=> t=s0++l.map g) (s:=s0) (by simp) (by
  rintro i s hi rfl;left;refine⟨_,hB i hi _ (by simp; omega),?_⟩;have:i < (l.map g).length:=by simpa using hi
  rw[←wZ this];simp) (by
  rintro s rfl;exact⟨_,hD _ _,by rw[wT (by simp)]⟩)
 rw[g1,g2]
def coll{β:Type}(n:Nat)(f:Nat→List β):List β:=(List.range n).flatMap f
theorem coll_succ{β:Type}(n:Nat)(f:Nat→List β):coll (n+1) f=coll n f++f n:=by
 unfold coll; rw[List.range_succ,List.flatMap_append]; simp
theorem coll_len{β:Type}{f:Nat→List β}(h:∀i,(f i).length≤1):∀n,(coll n f).length≤n
 |0=> by simp[coll]
 |n+1=> by rw[coll_succ,wR]; have:=coll_len h n; have:=h n; omega
theorem xw{β:Type}{n:Nat}(f:Nat→List β){S:List β×Int→Option ((List β×Int)⊕List β)}(h1:∀i,(f i).length≤1)
  (hB:∀ (i:Nat) (s:List β),i < n→s.length≤i→S (s,(i:Int))=some (.inl (s++f i,(i:Int)+1))) (hD:∀s:List β,S (s,(n:Int))=some (.inr s)):qA S ([],0)=some (coll n f):=by
 obtain⟨t,g1,g2⟩:=qQ (S:=S) (fun s=>(n - s.2).toNat) (fun s=>∃i:Nat,s.2=i∧i≤n∧s.1=coll i f) (fun t=> t=coll n f) (s:=([],0)) ⟨0,rfl,vD _,by simp[coll]⟩ (by
  rintro⟨s,j⟩ ⟨i,p1,p2,p3⟩;simp only at p1 p3;subst p1; subst p3;by_cases hi:i < n
  ·left
   refine⟨_,hB i _ hi (coll_len h1 i),⟨i+1,by simp,hi,(coll_succ i f).symm⟩,by simp only; omega⟩
  ·right
   have:i=n:=by omega
   subst this;exact⟨_,hD _,rfl⟩)
 rw[g1,g2]
theorem IsP.inv{p:Int}(hp:IsP p):HasInv p:=by
 intro a h0 h1;have key:∀k m:Int,a*k=1+p*m→∃k,Cg p (a*k) 1:=fun k m e=>⟨k,m,by omega⟩;unfold IsP at hp;rcases hp with rfl|rfl|rfl|rfl
 ·have:a=1:=by omega
  subst this; exact key 1 0 (by decide)
 ·have:a=1∨a=2:=by omega
  rcases this with rfl|rfl
  ·exact key 1 0 (by decide)
  ·exact key 2 1 (by decide)
 ·have:a=1∨a=2∨a=3∨a=4:=by omega
  rcases this with rfl|rfl|rfl|rfl
  ·exact key 1 0 (by decide)
  ·exact key 3 1 (by decide)
  ·exact key 2 1 (by decide)
  ·exact key 4 3 (by decide)
 ·have:a=1∨a=2∨a=3∨a=4∨a=5∨a=6:=by omega
  rcases this with rfl|rfl|rfl|rfl|rfl|rfl
  ·exact key 1 0 (by decide)
  ·exact key 4 1 (by decide)
  ·exact key 5 2 (by decide)
  ·exact key 2 1 (by decide)
  ·exact key 3 2 (by decide)
  ·exact key 6 5 (by decide)
theorem rest_take{p:Int}{R:L2}{v:L1}{i:Nat}(hi:i < R.length):rest p (R.take (i+1)) v=subv p (rest p (R.take i) v) R[i] (nth (rest p (R.take i) v) (ld R[i])):=by
 rw[←wZ hi];unfold rest;rw[List.foldl_append];rfl
theorem F205_eq{p:Int}{w:Nat}(hp:IsP p){R:L2}(hR:Red p w R){v:L1}(hv:qD p w v)(hw:w≤1000):F205 p v R=some (rest p R v):=by
 have aM:0 < p:=by have:=hp.range; omega
 have hRl:=jk hR;unfold F205;rw[F96_eq (by rw[hv.len]; omega),ob,F101_eq hR hw,ob];obtain⟨t,g1,g2⟩:=qy (B:=F205_1_B p R (R.map fun r=>(ld r:Int))) (D:=F205_1_D) (hi:=((R.map fun r=>(ld r:Int)).length:Int)) R.length (by simp) (by omega) (fun i s=> s=rest p (R.take i) v) (fun t=> t=rest p R v) (s:=v) rfl (by
  rintro i s hi rfl;left;have hri:=hR.ok _ (wC hi);have hro:=hR.one _ (wC hi);have hok:=jQ aM (R:=R.take i) (fun r hr=> hR.ok r (wW hr)) hv;have hrng:=hok.rng _ hro.1;refine⟨_,?_,(rest_take hi).symm⟩;unfold F205_1_B;rw[qk (by simpa using hi),ob,List.getElem_map,qk hi,ob,zk (by rw[hok.len]; exact hro.1),ob,F139_eq hp.range hrng hok hri (by omega),ob]) (by
  rintro s rfl;exact⟨_,rfl,by rw[vK]⟩)
 rw[g1,g2]
theorem kernel_full{p:Int}{w:Nat}(hp:IsP p){rows:L2}(hr:Rows p w rows)(hw:w≤1000)(hn:rows.length≤1000):∃K,F122 p rows.length rows=some K∧F125 p rows=some K∧Red p rows.length K∧∀c,Sp p rows.length K c↔qD p rows.length c∧∀j,j < w→Cg p (dot (nth c) rows rows.length j) 0:=by
 have cX:1 < p:=by have:=hp.range; omega
 unfold F122 F125;rw[F122_1_eq hr hw hn,ob];simp only;by_cases h0:rows.length=0
 ·have:rows=[]:=wU h0
  subst this;have e:(jl ([]:L2).length [])=[]:=by simp[jl]
  obtain⟨E,e1, -,e3⟩:=zy hp (rows:=[]) (w:=0+0) (fun r h=>(nomatch h)) (by omega) (by simp);have hE:E=[]:=wU (by have:=jk e3.red; omega);subst hE;rw[e,e1,ob,if_pos (by simp),if_pos (by simp)];have:=F122_2_eq (w:=0) (n:=0) e3.red (by omega);have h2:forR 0 ((([]:L2).length:Nat):Int) (xl 0 []) (xT 0 []) []=some []:=this;rw[h2];refine⟨[],rfl,rfl,⟨fun r h=>(nomatch h),fun r h=>(nomatch h),.nil⟩,fun c=>⟨fun hc=>⟨hc.ok (by omega) (fun r h=> absurd h yW),fun j _=> .refl _ _⟩,fun hc=>?_⟩⟩;have:c=zv 0:=wU hc.1.len;rw[this];exact .zero
 ·rw[if_neg h0,if_neg (by omega)]
  obtain⟨E,e1,e2,e3⟩:=zy hp (longs_ok cX hr) (by omega) (by rw[longs_len]; omega);have hpos:0 < rows.length:=by omega
  have am:=(hr _ (wC hpos)).len;have ht:=tails_red e3.red;rw[show(0:Int)=((0:Nat):Int) from rfl,qk hpos,ob,show((0:Nat):Int)=(0:Int) from rfl,e1,ob,F122_2_eq e3.red (by omega),ob,F125_1_eq hr am hw hn,ob,e2,ob,F125_2_eq e3.red (by omega) am,ob,F133_self hp ht (by omega) (by have:=jk ht; omega),ob];exact⟨_,rfl,rfl,ht,fun c=> kernel_sp cX hr e3⟩
theorem lin_at{p:Int}{n:Nat}{v:L1}{m:L2}(H:LinOK p n v m){j:Nat}(hj:j < n):Cg p (nth (lin p n v m) j) (dot (nth v) m v.length j):=by
 have key:∀i,i≤v.length→Cg p (nth (linN p n v m i) j) (dot (nth v) m i j):=by
  intro i;induction i with
  |zero=> intro _; simp only[linN]; rw[show nth (List.replicate n (0:Int)) j=0 from zh n j]; exact .refl _ _
  |succ i ih=>
   intro hi;obtain⟨h1,h2⟩:=linN_ok H i (by omega);have hm:i < m.length:=by have:=H.hl; omega
   have hr:=H.hr _ (wC hm);have e1:v.getD i 0=v[i]:=by simp[show i < v.length by omega]
   have e2:m.getD i []=m[i]:=by simp[hm]
   have hx:=H.hv _ (wC (show i < v.length by omega));have ho:=h2 _ (wC (show j < (linN p n v m i).length by omega));have hy:=hr.2 _ (wC (show j < m[i].length by omega));obtain⟨-, -,t1, -⟩:=small_mul H.hp hx hy ho;have e3:nth (linN p n v m (i+1)) j=((linN p n v m i)[j]+v[i]*(m[i])[j]).tmod p:=by
    simp only[linN,e1,e2];rw[qP (by unfold addRow; rw[List.length_zipWith,h1,hr.1]; omega)];simp[addRow]
   have h0:0≤(linN p n v m i)[j]+v[i]*(m[i])[j]:=by have:=Int.mul_nonneg hx.1 hy.1; omega
   rw[e3,Int.tmod_eq_emod_of_nonneg h0];refine(Cg.mod _ _).trans ?_;show Cg p _ (sumI _ (i+1));unfold sumI;refine .add ?_ ?_
   ·have:=ih (by omega)
    rwa[qP (by omega)]at this
   ·rw[qP (show i < v.length by omega),qC hm,qP (show j < m[i].length by omega)]; exact .refl _ _
 exact key v.length (wE _)
theorem units_sp{p:Int}(hp:1 < p){n:Nat}{v:L1}(hv:qD p n v):Sp p n (zJ n) v:=by
 have aM:0 < p:=by omega
 have hu:=units_red hp n;refine(jP aM hu hv).1 ((jQ aM hu.ok hv).ext (zj aM n) fun j hj=>?_);have hm:zH n j∈zJ n:=wQ.2 ⟨j,wX.2 hj,rfl⟩;have:=rest_lead aM hu hv _ hm;rw[ld_unit hj]at this;rw[this,zh]; exact .refl _ _
theorem Sp.zeros{p:Int}{w:Nat}(hp:0 < p){R:L2}(h:∀r∈R,r=zv w){v:L1}(hv:Sp p w R v):v=zv w:=by
 induction hv with
 |zero=> rfl
 | @sub v r k hv hr ih=>
  rw[ih,h r hr];exact(qB hp (zj hp w).len (zj hp w).len).ext (zj hp w) fun j hj=>(qL (zj hp w).len (zj hp w).len hj).trans (by rw[zh]; exact⟨0,by simp⟩)
theorem idx_loopW{α:Type}{l:List α}(g:Nat→α→α){S:List α×Int→Option ((List α×Int)⊕List α)}
  (hS:∀ (i:Nat) (hi:i < l.length) (s:List α),s.length=l.length→(∀k,s[k]? =if k < i then(l[k]?).map (g k)else l[k]?)→S (s,(i:Int))=some (.inl (s.set i (g i l[i]),(i:Int)+1))) (hE:∀s:List α,s.length=l.length→S (s,(l.length:Int))=some (.inr s)):qA S (l,0)=some (l.mapIdx g):=by
 obtain⟨t,h1,h2⟩:=qQ (S:=S) (fun s=>(l.length - s.2).toNat) (fun s=>∃i:Nat,s.2=i∧i≤l.length∧s.1.length=l.length∧∀k,s.1[k]? =if k < i then(l[k]?).map (g k)else l[k]?) (fun t=> t=l.mapIdx g) (s:=(l,0)) ⟨0,rfl,vD _,rfl,fun k=> by simp⟩ (by
  rintro⟨s,j⟩ ⟨i,p0,p00,p1,p2⟩;simp only at p0 p1 p2;subst p0;by_cases hi:i < l.length
  ·left
   refine⟨_,hS i hi s p1 p2,⟨i+1,by simp,hi,by simp only[vW]; exact p1,fun k=>?_⟩,by simp only; omega⟩;simp only;rw[gK];by_cases e:i=k
   ·subst e; rw[if_pos rfl,if_pos (by omega),if_pos (by omega)]; simp[hi]
   ·rw[if_neg e,p2 k]
    by_cases q:k < i
    ·rw[if_pos q,if_pos (by omega)]
    ·rw[if_neg q,if_neg (by omega)]
  ·right
   have:i=l.length:=by omega
   subst this;refine⟨s,hE s p1,?_⟩;apply List.ext_getElem?;intro k;rw[p2 k,List.getElem?_mapIdx];by_cases q:k < l.length
   ·rw[if_pos q]
   ·rw[if_neg q,gF (by omega)]; rfl)
 rw[h1,h2]
def zG(o:Option (Unit⊕(Unit⊕Bool)))(P:Prop):Prop:=∃b:Bool,o=some (if b=true then .inl ()else .inr (.inr false))∧(b=true↔P)
theorem zG.iff{o:Option (Unit⊕(Unit⊕Bool))}{P Q:Prop}(h:zG o P)(e:P↔Q):zG o Q:=by
 obtain⟨b,h1,h2⟩:=h; exact⟨b,h1,h2.trans e⟩
theorem zG.yes:zG (some (.inl ())) True:=⟨true,rfl,by simp⟩
theorem zZ.then_L{o:Option Bool}{k:Option (Unit⊕(Unit⊕Bool))}{P Q:Prop}(T:zZ o P)(hk:P→zG k Q):zG (o.bind fun b=> if b=true then k else some (.inr (.inr false))) (P∧Q):=by
 rcases T.case with⟨e,q⟩|⟨e,q⟩
 ·rw[e,ob,if_pos rfl]
  exact(hk q).iff ⟨fun h=>⟨q,h⟩,fun h=> h.2⟩
 ·rw[e,ob,if_neg wD]
  exact⟨false,rfl,by simp only[wP,false_iff]; exact fun h=> q h.1⟩
theorem zG.ite{a b:Int}{k:Option (Unit⊕(Unit⊕Bool))}{Q:Prop}(hk:a=b→zG k Q):zG (if a=b then k else some (.inr (.inr false))) (a=b∧Q):=by
 by_cases c:a=b
 ·rw[if_pos c]; exact(hk c).iff ⟨fun h=>⟨c,h⟩,fun h=> h.2⟩
 ·rw[if_neg c]; exact⟨false,rfl,by simp[c]⟩
def WTells(o:Option (Int⊕(Unit⊕Bool)))(i:Int)(P:Prop):Prop:=∃b:Bool,o=some (if b=true then .inl (i+1)else .inr (.inr false))∧(b=true↔P)
theorem WTells.iff{o:Option (Int⊕(Unit⊕Bool))}{i:Int}{P Q:Prop}(h:WTells o i P)(e:P↔Q):WTells o i Q:=by
 obtain⟨b,h1,h2⟩:=h; exact⟨b,h1,h2.trans e⟩
theorem WTells.yes{i:Int}:WTells (some (.inl (i+1))) i True:=⟨true,rfl,by simp⟩
theorem zZ.then_W{o:Option Bool}{k:Option (Int⊕(Unit⊕Bool))}{i:Int}{P Q:Prop}(T:zZ o P)(hk:P→WTells k i Q):WTells (o.bind fun b=> if b=true then k else some (.inr (.inr false))) i (P∧Q):=by
 rcases T.case with⟨e,q⟩|⟨e,q⟩
 ·rw[e,ob,if_pos rfl]
  exact(hk q).iff ⟨fun h=>⟨q,h⟩,fun h=> h.2⟩
 ·rw[e,ob,if_neg wD]
  exact⟨false,rfl,by simp only[wP,false_iff]; exact fun h=> q h.1⟩
theorem all_for{n:Nat}{B:Int→Unit→Option (Unit⊕(Unit⊕Bool))}{D:Int→Unit→Option (Unit⊕Bool)}(P:Nat→Prop)(hn:n≤1000000)(hB:∀i:Nat,i < n→zG (B i ()) (P i))(hD:∀i,D i ()=some (.inl ())):
  ∃b:Bool,forR 0 (n:Int) B D ()=some (if b=true then .inl ()else .inr false)∧(b=true↔∀i,i < n→P i):=by
 obtain⟨t,h1,b,h2,h3⟩:=qy (B:=B) (D:=D) n rfl (by omega) (fun i _=>∀k,k < i→P k) (fun t=>∃b:Bool,t=(if b=true then .inl ()else .inr false)∧(b=true↔∀i,i < n→P i)) (s:=()) (fun k hk=> by omega) (by
  rintro i _ hi hI;obtain⟨b,e,q⟩:=hB i hi;cases b with
  |true=>
   left;refine⟨(),e,fun k hk=>?_⟩;by_cases c:k=i
   ·subst c; exact q.1 rfl
   ·exact hI k (by omega)
  |false=>
   right;refine⟨.inr false,e,false,rfl,?_⟩;simp only[wP,false_iff];intro h;have:=q.2 (h i hi);cases this) (by
  rintro _ hI;exact⟨.inl (),hD _,true,rfl,by simp only[true_iff]; exact hI⟩)
 subst h2;exact⟨b,h1,h3⟩
theorem all_W{n:Nat}{S:Int→Option (Int⊕(Unit⊕Bool))}(P:Nat→Prop)(hS:∀i:Nat,i < n→WTells (S i) i (P i))(hE:S n=some (.inr (.inl ()))):
  ∃b:Bool,qA S 0=some (if b=true then .inl ()else .inr false)∧(b=true↔∀i,i < n→P i):=by
 obtain⟨t,h1,b,h2,h3⟩:=qQ (S:=S) (fun j=>(n - j).toNat) (fun j=>∃i:Nat,j=i∧i≤n∧∀k,k < i→P k) (fun t=>∃b:Bool,t=(if b=true then .inl ()else .inr false)∧(b=true↔∀i,i < n→P i)) (s:=0) ⟨0,rfl,vD _,fun k hk=> by omega⟩ (by
  rintro _ ⟨i,rfl,hi,hI⟩;by_cases hlt:i < n
  ·obtain⟨b,e,q⟩:=hS i hlt
   cases b with
   |true=>
    left;refine⟨(i:Int)+1,e,⟨i+1,by simp,hlt,fun k hk=>?_⟩,by omega⟩;by_cases c:k=i
    ·subst c; exact q.1 rfl
    ·exact hI k (by omega)
   |false=>
    right;refine⟨.inr false,e,false,rfl,?_⟩;simp only[wP,false_iff];intro h;have:=q.2 (h i hlt);cases this
  ·right
   have:i=n:=by omega
   subst this;exact⟨.inl (),hE,true,rfl,by simp only[true_iff]; exact hI⟩)
 subst h2;exact⟨b,h1,h3⟩
theorem same_iff{a b:L1}(h:a.length=b.length):(∀i,i < a.length→nth a i=nth b i)↔a=b:=⟨fun q=> nth_ext h q,fun q i _=> by rw[q]⟩
theorem F287_tells{a b:L1}(ha:a.length≤1000):zZ (F287 a b) (a=b):=by
 unfold F287;by_cases c:(a.length:Int)=b.length
 case neg=> rw[if_neg c]; exact .of_false rfl fun h=> c (by rw[h])
 rw[if_pos c];obtain⟨b',h1,h2⟩:=all_for (B:=F287_1_B a b) (D:=F287_1_D a b) (fun i=> nth a i=nth b i) (show a.length≤1000000 by omega) (fun i hi=> by
  unfold F287_1_B;rw[zk hi,ob,zk (show i < b.length by omega),ob];exact(zG.ite fun _=> .yes).iff (by simp)) fun i=> rfl
 rw[h1,ob];have e:=same_iff (a:=a) (b:=b) (by omega);cases b' with
 |true=> exact .of_true rfl (e.1 (h2.1 rfl))
 |false=> exact .of_false rfl fun h=> by have:=h2.2 (e.2 h); cases this
theorem F165_tells{a b:L1}(ha:a.length≤1000):zZ (F165 a b) (a=b):=F287_tells ha
theorem F272_eq{n i:Nat}(hi:i < n)(hn:n≤1000):F272 (n:Int) (i:Int)=some (zH n i):=by
 unfold F272;rw[mkL_ok n rfl (by omega) (by omega),ob]
 change ((getI (zv n) (i:Int)).bind _)=_
 rw[qk (by simpa[zv]using hi),ob]
 change ((setI (zv n) (i:Int) 1).bind _)=_
 rw[zg (by simpa[zv]using hi),ob];rfl
theorem F173_eq{p k:Int}{w:Nat}(hp:2≤p∧p≤7)(hk:0≤k∧k < p){r o:L1}(hr:qD p w r)(ho:qD p w o)(hw:w≤1000):F173 p r o k=some (subv p r o (-k)):=by
 have hl:=hr.len;have hol:=ho.len;unfold F173;rw[F96_eq (by omega),ob,show(o.length:Int)=(r.length:Int) by omega,idx_loop (l:=r) (B:=F173_1_B p o k) (D:=F173_1_D p o k) (fun i x=>(x - -k*nth o i)% p) (by omega) (fun i hi s hs hk'=>?_) (fun i s=> rfl),ob]
 ·congr 1
  have hsl:(subv p r o (-k)).length=w:=by simp[subv,hl,hol]
  apply yO (by simp[hl,hsl]);intro i h1 h2;have hi:i < w:=by omega
  have:=zE (p:=p) (k:= -k) hl hol hi;rw[qP h2,qP (show i < r.length by omega)]at this;rw[this]; simp
 ·have h1:s[i]? =r[i]?:=by rw[hk' i,if_neg (Nat.lt_irrefl _)]
  have h2:s[i]'(by omega)=r[i]:=by
   have:=h1;rw[gB (by omega),gB hi]at this;exact wA this
  have a1:=hr.rng i (by omega);rw[qP hi]at a1;have a2:=ho.rng i (by omega);have hm:0≤k*nth o i∧k*nth o i≤49:=by
   refine⟨Int.mul_nonneg hk.1 a2.1,?_⟩;have:=Int.mul_le_mul (show k≤7 by omega) (show nth o i≤7 by omega) a2.1 (by decide);omega
  unfold F173_1_B;rw[zk (by omega),ob,qk (show i < s.length by omega),ob,h2,ql (by omega) (by omega),ob,ql (by omega) (by omega),ob,jR (by omega),ob,zg (by omega),ob,tmod_pos (by omega),show r[i] - -k*nth o i=r[i]+k*nth o i by rw[Int.neg_mul]; omega]
def dc(x:qa)(n:Nat):Nat:=(x.D.getD n 0).toNat
theorem qW{x:qa}(h:qS x)(n:Nat):dc x n≤8:=by
 unfold dc;by_cases hn:n < x.D.length
 ·have:=h.dim hn; omega
 ·rw[gD,gF (by omega)]; simp
theorem xn{x:qa}(h:qS x){n:Nat}(hn:n < x.D.length):x.D.getD n 0=(dc x n:Int):=by
 have:=h.dim hn;unfold dc; omega
theorem F99_dc{x:qa}(hx:qJ x)(h:qS x){n:Nat}(hn:n≤x.D.length):F99 x (n:Int)=some (dc x n:Int):=by
 have hd:=hx.d;by_cases c:n < x.D.length
 ·rw[F99_at hx.d c,xn h c]
 ·have e:n=x.D.length:=by omega
  subst e;have:dc x x.D.length=0:=by unfold dc; rw[gD,gF (by omega)]; rfl
  unfold F99;rw[ql (by omega) (by omega),ob,F54_eq,ob,if_neg (by simp; omega),this];rfl
theorem F102_dc{x:qa}(hx:qJ x)(h:qS x){n:Nat}(hn:n≤x.D.length):F102 x (n:Int)=some (dc x n:Int):=by
 have hd:=hx.d;by_cases c:n < x.D.length
 ·rw[F102_at hx.d c,xn h c]
 ·have e:n=x.D.length:=by omega
  subst e;have:dc x x.D.length=0:=by unfold dc; rw[gD,gF (by omega)]; rfl
  unfold F102;rw[ji hx.d,ob,F56_eq,ob,if_neg (by simp; omega),this];rfl
theorem bounds_same{x:qa}(hx:qJ x)(h:qS x){n:Nat}(hn:n < x.D.length):∃B,F251 x (n:Int)=some B∧F186 x (n:Int)=some B∧Red x.P (dc x n) B:=by
 have hd:=hx.d;have hml:=h.ml;have hdl:=h.dl;unfold F251 F186;rw[ql (by omega) (by omega),ob,if_neg (by omega),ji hx.d,ob];by_cases c:n+1 < x.D.length
 ·have ht:=h.tab n (by omega)
  have hr:Rows x.P (dc x n) (x.M.getD n []):=fun r hr=>(ht.2 r hr).vec;have hl:=ht.1;have rL:=h.dim c;have:=qW h n;obtain⟨B,b1,b2,b3⟩:=zy h.p hr (by omega) (by omega);rw[show(n:Int)+1=((n+1:Nat):Int) by omega,F76_eq hx.d c (by omega),ob,b1,ob,if_neg (by omega),qh (show n < x.M.length by omega) [],ob,b2,ob];exact⟨B,rfl,rfl,b3.red⟩
 ·obtain⟨N,n1, -,n3⟩:=zy (p:=x.P) (w:=dc x n) h.p (rows:=[]) (fun r hr=>(nomatch hr)) (by have:=qW h n; omega) (by simp)
  have hN:N=[]:=by have:=n3.same (by have:=h.p.range; omega) (zN.nil x.P (dc x n)); exact this
  subst hN;have e:F76 x ((n:Int)+1)=some []:=by
   unfold F76;rw[ql (by omega) (by omega),ob,F54_eq,ob,if_neg (by simp; omega)];have dm:=F99_dc hx h (n:=n+1) (by omega);have h0:dc x (n+1)=0:=by unfold dc; rw[gD,gF (by omega)]; rfl
   rw[h0]at dm;obtain⟨t,g1,g2⟩:=qQ (S:=F76_1_S x ((n:Int)+1)) (fun s=> 0) (fun s=> s=([],0)) (fun t=> t=[]) (s:=([],0)) rfl (by
    rintro s rfl;right;unfold F76_1_S;simp only;rw[show(n:Int)+1=((n+1:Nat):Int) by omega,dm,ob,if_neg (by simp)];exact⟨_,rfl,rfl⟩)
   rw[g1,ob,g2]
  rw[e,ob,n1,ob,if_pos (by omega)];exact⟨[],rfl,rfl,n3.red⟩
structure TabN (p:Int) (c w:Nat) (m:L2):Prop where
 len:m.length=c
 rows:Rows p w m
theorem TabN.of{p:Int}{c w:Nat}{m:L2}(T:jg p (c:Int) (w:Int) m):TabN p c w m:=⟨by have:=T.1; omega,fun r hr=>(T.2 r hr).vec⟩
theorem linT{p:Int}(hp:IsP p){c w:Nat}{m:L2}(T:TabN p c w m)(hc:c≤1000)(hw:w≤1000){v:L1}(hv:qD p c v):F80 p m v (w:Int)=some (lin p w v m)∧F119 p (w:Int) v m=some (lin p w v m)∧qD p w (lin p w v m):=by
 have hvl:=hv.len;have hml:=T.len;have H:LinOK p w v m:=⟨hp.range,fun y hy=> by
  obtain⟨k,hk,rfl⟩:=wK hy;have:=hv.rng k (by omega)
  rwa[qP hk]at this,by omega,fun l hl=>⟨(T.rows l hl).len,fun y hy=> by
  have hl':=T.rows l hl;have hll:=hl'.len;obtain⟨k,hk,rfl⟩:=wK hy;have:=hl'.rng k (by omega)
  rwa[qP hk]at this⟩,by omega,by omega⟩
 refine⟨F80_eq H rfl,F119_eq H rfl,?_⟩;have hok:=linN_ok H v.length (wE _);refine⟨hok.1,fun j hj=>?_⟩;have hj':j < (lin p w v m).length:=by rw[lin_len H]; exact hj
 rw[qP hj'];exact hok.2 _ (wC hj')
def dfF(x:qa)(n:Nat)(v:L1):L1:=if n=0 then []else lin x.P (dc x (n - 1)) v (x.M.getD (n - 1) [])
theorem df_eq{x:qa}(hx:qJ x)(h:qS x){n:Nat}(hn:n < x.D.length){v:L1}(hv:qD x.P (dc x n) v):F273 x (n:Int) v=some (dfF x n v)∧F91 x (n:Int) v=some (dfF x n v)∧(n≠0→qD x.P (dc x (n - 1)) (dfF x n v))∧(dfF x n v).length≤8:=by
 have hxd:=hx.d;unfold F273 F91 dfF;by_cases c:n=0
 ·subst c
  rw[if_pos (by simp),if_pos (by simp),if_pos (by simp)];exact⟨rfl,rfl,fun q=> absurd rfl q,by simp⟩
 ·obtain⟨m,rfl⟩:∃m,n=m+1:=⟨n - 1,by omega⟩
  have hm:m < x.M.length:=by have:=h.ml; omega
  have T:TabN x.P (dc x (m+1)) (dc x m) (x.M.getD m []):= .of (by have:=h.tab m hm; unfold jC at this; rwa[xn h hn,xn h (show m < x.D.length by omega)]at this);have hd:=qW h m;have rL:=qW h (m+1);obtain⟨a1,a2,a3⟩:=linT h.p T (by omega) (by omega) hv;have e:((m+1:Nat):Int) - 1=(m:Int):=by omega
  rw[if_neg (by omega),if_neg (by omega),if_neg (by omega),F76_eq hx.d (by omega) hm,ob,ql (by omega) (by omega),ob,e,F99_dc hx h (by omega),ob,a1,ob,ji hx.d,ob,if_neg (by omega),ob,qh (show m < x.D.length by omega) 0,ob,qh hm [],ob,xn h (show m < x.D.length by omega),a2,ob,vQ];exact⟨rfl,rfl,fun _=> a3,by rw[a3.len]; omega⟩
theorem units_at{n i:Nat}(h:i < (zJ n).length):(zJ n)[i]=zH n i:=by simp[zJ]
structure PT (s0 ms:T3s) (φ:Nat→Nat→Nat→Nat×Nat×Nat) (val:Nat→Nat→Nat→Int) (D:Nat→Nat→Nat→Prop) (s:T3s):Prop where
 shp:Shp s s0
 at':∀k i j,InT ms k i j→(D k i j→xv s (φ k i j).1 (φ k i j).2.1 (φ k i j).2.2=val k i j)∧(¬D k i j→xv s (φ k i j).1 (φ k i j).2.1 (φ k i j).2.2=xv s0 (φ k i j).1 (φ k i j).2.1 (φ k i j).2.2)
 out:∀a b c,InT s0 a b c→(∀k i j,InT ms k i j→φ k i j≠(a,b,c))→xv s a b c=xv s0 a b c
theorem PT.imp{s0 ms:T3s}{φ:Nat→Nat→Nat→Nat×Nat×Nat}{val:Nat→Nat→Nat→Int}{D D':Nat→Nat→Nat→Prop}{s:T3s}(h:PT s0 ms φ val D s)(hd:∀k i j,InT ms k i j→(D k i j↔D' k i j)):PT s0 ms φ val D' s:=
 ⟨h.shp,fun k i j hin=>⟨fun d=>(h.at' k i j hin).1 ((hd k i j hin).2 d),fun d=>(h.at' k i j hin).2 fun x=> d ((hd k i j hin).1 x)⟩,h.out⟩
theorem PT.zero{s0 ms:T3s}{φ:Nat→Nat→Nat→Nat×Nat×Nat}{val:Nat→Nat→Nat→Int}:PT s0 ms φ val (fun _ _ _=> False) s0:=⟨.refl _,fun k i j _=>⟨fun x=> x.elim,fun _=> rfl⟩,fun _ _ _ _ _=> rfl⟩
theorem PT.step{s0 ms:T3s}{φ:Nat→Nat→Nat→Nat×Nat×Nat}{val:Nat→Nat→Nat→Int}(hi:∀k i j,InT ms k i j→InT s0 (φ k i j).1 (φ k i j).2.1 (φ k i j).2.2)(hinj:∀k i j k' i' j',InT ms k i j→InT ms k' i' j'→φ k i j=φ k' i' j'→k=k'∧i=i'∧j=j')
  {D D':Nat→Nat→Nat→Prop} {s:T3s} (h:PT s0 ms φ val D s) {k i j:Nat} (hin:InT ms k i j) (hd:∀k' i' j',D' k' i' j'↔D k' i' j'∨(k'=k∧i'=i∧j'=j)):PT s0 ms φ val D' (put3 s (φ k i j).1 (φ k i j).2.1 (φ k i j).2.2 (val k i j)):=by
 have hs:=h.shp.inT (hi k i j hin);refine⟨(put3_shp hs _).trans h.shp,fun k' i' j' hin'=>?_,fun a b c habc hne=>?_⟩
 ·rw[put3_at hs]
  by_cases e:k'=k∧i'=i∧j'=j
  ·obtain⟨rfl,rfl,rfl⟩:=e
   rw[if_pos ⟨rfl,rfl,rfl⟩];exact⟨fun _=> rfl,fun d=> absurd ((hd _ _ _).2 (.inr ⟨rfl,rfl,rfl⟩)) d⟩
  ·rw[if_neg fun q=> e (hinj k' i' j' k i j hin' hin (Prod.ext q.1 (Prod.ext q.2.1 q.2.2)))]
   refine⟨fun d=>(h.at' _ _ _ hin').1 (((hd _ _ _).1 d).resolve_right e),fun d=>(h.at' _ _ _ hin').2 fun x=> d ((hd _ _ _).2 (.inl x))⟩
 ·rw[put3_at hs,if_neg fun q=> hne k i j hin (Prod.ext q.1.symm (Prod.ext q.2.1.symm q.2.2.symm))]
  exact h.out a b c habc hne
theorem bounds_full{x:qa}(hx:qJ x)(h:qS x){n:Nat}(hn:n < x.D.length):∃B,F251 x (n:Int)=some B∧F186 x (n:Int)=some B∧Red x.P (dc x n) B∧(n+1 < x.D.length→zN x.P (dc x n) (x.M.getD n []) B)∧(¬n+1 < x.D.length→B=[]):=by
 have hd:=hx.d;have hml:=h.ml;have hdl:=h.dl;obtain⟨B,b1,b2,b3⟩:=bounds_same hx h hn;refine⟨B,b1,b2,b3,fun c=>?_,fun c=>?_⟩
 ·have ht:=h.tab n (by omega)
  have hr:Rows x.P (dc x n) (x.M.getD n []):=fun r hr=>(ht.2 r hr).vec;have hl:=ht.1;have rL:=h.dim c;have:=qW h n;obtain⟨B',rg,b2',b3'⟩:=zy h.p hr (by omega) (by omega);unfold F186 at b2;rw[ji hx.d,ob,if_neg (by omega),if_neg (by omega),qh (show n < x.M.length by omega) [],ob,b2',ob]at b2;have:=wA b2;subst this;exact b3'
 ·unfold F186 at b2
  rw[ji hx.d,ob,if_neg (by omega),if_pos (by omega)]at b2;exact(wA b2).symm
structure Fam (x y:qa) (f:T3s):Prop where
 sx:qJ x
 sy:qJ y
 sf:zS f
 vx:qS x
 vy:qS y
 pp:y.P=x.P
 l:y.D.length=x.D.length
 fl:f.length=x.D.length
 t:∀n,n < x.D.length→TabN x.P (dc x n) (dc y n) (f.getD n [])
theorem Fam.inT{x y:qa}{f:T3s}(F:Fam x y f){k i j:Nat}:InT f k i j↔k < x.D.length∧i < dc x k∧j < dc y k:=by
 have hfl:=F.fl;unfold InT;constructor
 ·rintro⟨h1,h2,h3⟩
  have ht:=F.t k (by omega);have a:=ht.len;have b:=(ht.rows _ (qV h2 [])).len;exact⟨by omega,by omega,by omega⟩
 ·rintro⟨h1,h2,h3⟩
  have ht:=F.t k h1;have a:=ht.len;have h2':i < (f.getD k []).length:=by omega
  have b:=(ht.rows _ (qV h2' [])).len;exact⟨by omega,h2',by omega⟩
def xd(x:qa)(n:Nat):Nat:=if n=0 then 0 else dc x (n - 1)
theorem row_ok{p:Int}{c w:Nat}{m:L2}(T:TabN p c w m){i:Nat}(h:i < c):qD p w (qi m i):=T.rows _ (zx (by rw[T.len]; exact h))
theorem js{x:qa}(h:qS x){k:Nat}(hk:k+1 < x.D.length):TabN x.P (dc x (k+1)) (dc x k) (x.M.getD k []):= .of (by
 have:=h.tab k (by have:=h.ml; omega);unfold jC at this
 rwa[xn h hk,xn h (show k < x.D.length by omega)]at this)
structure WideC (x:qa):Prop where
 p:IsP x.P
 dl:1≤x.D.length∧x.D.length≤100
 ml:x.M.length+1=x.D.length
 dims:∀d∈x.D,0≤d∧d≤100
 tab:∀k,k < x.M.length→jC x k
theorem WideC.dim{x:qa}(h:WideC x){n:Nat}(hn:n < x.D.length):0≤x.D.getD n 0∧x.D.getD n 0≤100:=h.dims _ (qV hn 0)
theorem qS.wide{x:qa}(h:qS x):WideC x:=⟨h.p,⟨h.dl.1,by have:=h.dl.2; omega⟩,h.ml,fun d hd=> by have:=h.dims d hd; omega,h.tab⟩
theorem dc_lew{x:qa}(h:WideC x)(n:Nat):dc x n≤100:=by
 unfold dc;by_cases hn:n < x.D.length
 ·have:=h.dim hn; omega
 ·rw[gD,gF (by omega)]; simp
theorem dc_atw{x:qa}(h:WideC x){n:Nat}(hn:n < x.D.length):x.D.getD n 0=(dc x n:Int):=by
 have:=h.dim hn;unfold dc; omega
theorem jd{p:Int}(hp:IsP p){c w:Nat}{m:L2}(hml:m.length=c)(hm:Rows p w m)(hc:c≤1000)(hw:w≤1000){v:L1}(hv:qD p c v):LinOK p w v m:=by
 have hvl:=hv.len;exact⟨hp.range,fun y hy=> by
  obtain⟨k,hk,rfl⟩:=wK hy;have:=hv.rng k (by omega)
  rwa[qP hk]at this,by omega,fun l hl=>⟨(hm l hl).len,fun y hy=> by
  have hl':=hm l hl;have hll:=hl'.len;obtain⟨k,hk,rfl⟩:=wK hy;have:=hl'.rng k (by omega)
  rwa[qP hk]at this⟩,by omega,by omega⟩
theorem jS{p:Int}{w:Nat}{m:L2}{v:L1}(H:LinOK p w v m):qD p w (lin p w v m):=by
 have hok:=linN_ok H v.length (wE _);refine⟨hok.1,fun j hj=>?_⟩;have hj':j < (lin p w v m).length:=by rw[lin_len H]; exact hj
 rw[qP hj'];exact hok.2 _ (wC hj')
theorem nth_take{l:L1}{k j:Nat}(h:j < k):nth (l.take k) j=nth l j:=by
 unfold nth;rw[gD,gD,List.getElem?_take_of_lt h]
theorem take_vec{p:Int}{a b:Nat}{c:L1}(hc:qD p (a+b) c):qD p a (c.take a):=
 ⟨by rw[yG,hc.len]; omega,fun j hj=> by rw[nth_take hj]; exact hc.rng j (by omega)⟩
theorem lin_take{p:Int}(hp:IsP p){a b w:Nat}{m:L2}(hml:m.length=a)(hm:Rows p w m)(ha:a≤1000)(hw:w≤1000):Lin p (a+b) w fun c=> lin p w (c.take a) m:=by
 have aM:0 < p:=by have:=hp.range; omega
 have H:=fun c (hc:qD p (a+b) c)=> jd hp hml hm ha hw (take_vec hc);have hat:=fun c (hc:qD p (a+b) c) j (hj:j < w)=> lin_at (H c hc) hj;refine⟨fun c hc=> jS (H c hc),fun u v k hu hv=>?_⟩;have h1:=qB aM hu.len hv.len (k:=k);have d1:=jS (H u hu);have d2:=jS (H v hv);refine(jS (H _ h1)).ext (qB aM d1.len d2.len) fun j hj=>?_;have e:∀c,qD p (a+b) c→(c.take a).length=a:=fun c hc=>(take_vec hc).len;refine(hat _ h1 j hj).trans ?_;rw[e _ h1];refine(dot_cg (g:=fun i=> nth (u.take a) i - k*nth (v.take a) i) fun i hi=>?_).trans ?_
 ·rw[nth_take hi,nth_take hi,nth_take hi]
  exact qL hu.len hv.len (by omega)
 ·rw[dot_lin]
  have q1:=hat u hu j hj;have q2:=hat v hv j hj;rw[e u hu]at q1;rw[e v hv]at q2;exact Cg.symm ((qL d1.len d2.len hj).trans (.sub q1 (.mul (.refl _ _) q2)))
theorem all_for1{n:Nat}{B:Int→Unit→Option (Unit⊕(Unit⊕Bool))}{D:Int→Unit→Option (Unit⊕Bool)}(P:Nat→Prop)(mp:1≤n)(hn:n≤1000000)(hB:∀i:Nat,1≤i→i < n→zG (B i ()) (P i))(hD:∀i,D i ()=some (.inl ())):
  ∃b:Bool,forR 1 (n:Int) B D ()=some (if b=true then .inl ()else .inr false)∧(b=true↔∀i,1≤i→i < n→P i):=by
 obtain⟨t,h1,b,h2,h3⟩:=forR_from (B:=B) (D:=D) 1 n rfl rfl mp (by omega) (fun i _=> 1≤i∧∀k,1≤k→k < i→P k) (fun t=>∃b:Bool,t=(if b=true then .inl ()else .inr false)∧(b=true↔∀i,1≤i→i < n→P i)) (s:=()) ⟨wE _,fun k h1 hk=> by omega⟩ (by
  rintro i _ hi ⟨hi1,hI⟩;obtain⟨b,e,q⟩:=hB i hi1 hi;cases b with
  |true=>
   left;refine⟨(),e,by omega,fun k hk1 hk=>?_⟩;by_cases c:k=i
   ·subst c; exact q.1 rfl
   ·exact hI k hk1 (by omega)
  |false=>
   right;refine⟨.inr false,e,false,rfl,?_⟩;simp only[wP,false_iff];intro h;have:=q.2 (h i hi1 hi);cases this) (by
  rintro _ ⟨-,hI⟩;exact⟨.inl (),hD _,true,rfl,by simp only[true_iff]; exact hI⟩)
 subst h2;exact⟨b,h1,h3⟩
theorem all_W1{n:Nat}{S:Int→Option (Int⊕(Unit⊕Bool))}(P:Nat→Prop)(mp:1≤n)(hS:∀i:Nat,1≤i→i < n→WTells (S i) i (P i))(hE:S n=some (.inr (.inl ()))):
  ∃b:Bool,qA S 1=some (if b=true then .inl ()else .inr false)∧(b=true↔∀i,1≤i→i < n→P i):=by
 obtain⟨t,h1,b,h2,h3⟩:=qQ (S:=S) (fun j=>(n - j).toNat) (fun j=>∃i:Nat,j=i∧1≤i∧i≤n∧∀k,1≤k→k < i→P k) (fun t=>∃b:Bool,t=(if b=true then .inl ()else .inr false)∧(b=true↔∀i,1≤i→i < n→P i)) (s:=1) ⟨1,rfl,wE _,mp,fun k h1 hk=> by omega⟩ (by
  rintro _ ⟨i,rfl,hi1,hi,hI⟩;by_cases hlt:i < n
  ·obtain⟨b,e,q⟩:=hS i hi1 hlt
   cases b with
   |true=>
    left;refine⟨(i:Int)+1,e,⟨i+1,by simp,by omega,hlt,fun k hk1 hk=>?_⟩,by omega⟩;by_cases c:k=i
    ·subst c; exact q.1 rfl
    ·exact hI k hk1 (by omega)
   |false=>
    right;refine⟨.inr false,e,false,rfl,?_⟩;simp only[wP,false_iff];intro h;have:=q.2 (h i hi1 hlt);cases this
  ·right
   have:i=n:=by omega
   subst this;exact⟨.inl (),hE,true,rfl,by simp only[true_iff]; exact hI⟩)
 subst h2;exact⟨b,h1,h3⟩
def brk1:Unit⊕(Unit⊕Int)→Unit⊕Int
 | .inl _=> .inl ()
 | .inr t=> t
def brk2:Unit⊕(Unit⊕Int)→Unit⊕(Unit⊕Int)→Unit⊕Int
 | .inr t,_=> t
 | .inl _,.inr t=> t
 | .inl _,.inl _=> .inl ()
theorem loop1{B:Int→Unit→Option (Unit⊕(Unit⊕Int))}{D:Int→Unit→Option (Unit⊕Int)}(hD:∀i,D i ()=some (.inl ())){r:Unit⊕(Unit⊕Int)}(h:B 0 ()=some r):forR 0 1 B D ()=some (brk1 r):=by
 obtain⟨t,g1,g2⟩:=qy (B:=B) (D:=D) (hi:=1) 1 rfl (by decide) (fun i _=> i=1→r= .inl ()) (fun t=> t=brk1 r) (s:=()) (fun c=> by cases c) (by
  rintro i _ hi hI;have:i=0:=by omega
  subst this;cases r with
  |inl u=> left; exact⟨(),h,fun _=> rfl⟩
  |inr t=> right; exact⟨t,h,rfl⟩) (by
  rintro _ hI;exact⟨.inl (),hD _,by rw[hI rfl]; rfl⟩)
 rw[g1,g2]
theorem loop2{B:Int→Unit→Option (Unit⊕(Unit⊕Int))}{D:Int→Unit→Option (Unit⊕Int)}(hD:∀i,D i ()=some (.inl ())){r0 r1:Unit⊕(Unit⊕Int)}(h0:B 0 ()=some r0)(h1:B 1 ()=some r1):forR 0 2 B D ()=some (brk2 r0 r1):=by
 obtain⟨t,g1,g2⟩:=qy (B:=B) (D:=D) (hi:=2) 2 rfl (by decide) (fun i _=>(1≤i→r0= .inl ())∧(2≤i→r1= .inl ())) (fun t=> t=brk2 r0 r1) (s:=()) ⟨fun c=> by omega,fun c=> by omega⟩ (by
  rintro i _ hi ⟨hI0,hI1⟩;by_cases e:i=0
  ·subst e
   cases r0 with
   |inl u=> left; exact⟨(),h0,fun _=> rfl,fun c=> by omega⟩
   |inr t=> right; exact⟨t,h0,by cases r1 <;> rfl⟩
  ·have:i=1:=by omega
   subst this;have:=hI0 (by omega);subst this;cases r1 with
   |inl u=> left; exact⟨(),h1,fun _=> rfl,fun _=> rfl⟩
   |inr t=> right; exact⟨t,h1,rfl⟩) (by
  rintro _ ⟨hI0,hI1⟩;exact⟨.inl (),hD _,by rw[hI0 (by omega),hI1 (by omega)]; rfl⟩)
 rw[g1,g2]
theorem pair_same{x y:qa}(hx:qJ x)(hy:qJ y):∃c,F302 x y=some c∧F305 [x,y]=some c∧(c=0→qS x∧qS y∧y.P=x.P∧y.D.length=x.D.length):=by
 obtain⟨b,d1,d2,d3⟩:=(F39_tells hx).same (F42_tells hx);obtain⟨b',e1,e2,e3⟩:=(F39_tells hy).same (F42_tells hy);have hB0:xk [x,y] 0 ()=some (if b=true then .inl ()else .inr (.inr 1)):=by
  unfold xk;rw[show getI [x,y] 0=some x from rfl,ob,d2,ob];cases b <;> rfl
 have hB1:xk [x,y] 1 ()=some (if b'=true then .inl ()else .inr (.inr 1)):=by
  unfold xk;rw[show getI [x,y] 1=some y from rfl,ob,e2,ob];cases b' <;> rfl
 have hC0:xj [x,y] 0 ()=some (.inl ()):=by
  unfold xj;rw[show getI [x,y] 0=some x from rfl,ob,ob,if_pos rfl,if_pos rfl]
 have hC1:xj [x,y] 1 ()=some (if y.P=x.P then if(y.D.length:Int)=(x.D.length:Int)then .inl ()else .inr (.inr 2)else .inr (.inr 2)):=by
  unfold xj;rw[show getI [x,y] 1=some y from rfl,show getI [x,y] 0=some x from rfl,ob,ob];by_cases c1:y.P=x.P
  ·rw[if_pos c1]
   by_cases c2:(y.D.length:Int)=x.D.length
   ·rw[if_pos c2,if_pos c1,if_pos c2]
   ·rw[if_neg c2,if_pos c1,if_neg c2]
  ·rw[if_neg c1,if_neg c1]
 have l1:=loop2 (B:=xk [x,y]) (D:=F305_1_D [x,y]) (fun i=> rfl) hB0 hB1;have l2:=loop2 (B:=xj [x,y]) (D:=F305_2_D [x,y]) (fun i=> rfl) hC0 hC1;have e0:((([x,y]:List qa).length:Nat):Int)=2:=rfl;unfold F302 F305;rw[d1,ob,e0,l1];cases b with
 |false=> exact⟨1,rfl,rfl,fun c=> by cases c⟩
 |true=>
  rw[if_pos rfl,e1,ob];cases b' with
  |false=> exact⟨1,rfl,rfl,fun c=> by cases c⟩
  |true=>
   rw[if_pos rfl];simp only[if_true,ob];rw[l2];by_cases c1:y.P=x.P
   ·rw[if_pos c1.symm,if_pos c1]
    by_cases c2:(y.D.length:Int)=x.D.length
    ·rw[if_pos c2.symm,if_pos c2]
     exact⟨0,rfl,rfl,fun _=>⟨d3.1 rfl,e3.1 rfl,c1,by omega⟩⟩
    ·rw[if_neg fun q=> c2 q.symm,if_neg c2]
     exact⟨2,rfl,rfl,fun c=> by cases c⟩
   ·rw[if_neg fun q=> c1 q.symm,if_neg c1]
    exact⟨2,rfl,rfl,fun c=> by cases c⟩
def FamP(x y:qa)(f:T3s):Prop:=(f.length:Int)=x.D.length∧∀n,n < f.length→jg x.P (dc x n) (dc y n) (f.getD n [])
theorem F303_tells{x y:qa}{f:T3s}(hx:qJ x)(hy:qJ y)(hf:zS f)(vx:qS x)(vy:qS y)(hp:y.P=x.P)(hl:y.D.length=x.D.length):zZ (F303 x y f 0) (FamP x y f):=by
 have hr:=vx.p.range;have hdl:=vx.dl;unfold F303 FamP;by_cases c1:(f.length:Int)=x.D.length
 case neg=> rw[if_neg c1]; exact .of_false rfl fun k=> c1 k.1
 rw[if_pos c1];obtain⟨b,h1,h2⟩:=all_for (B:=xP x y f 0) (D:=F303_1_D x y f 0) (fun n=> jg x.P (dc x n) (dc y n) (f.getD n [])) (show f.length≤1000000 by omega) (fun n hn=> by
  have hmem:=qV hn [];have hfr:=hf.r _ hmem;have hdy:=qW vy n;unfold xP;rw[qh hn [],ob,qh (show n < x.D.length by omega) 0,ob,xn vx (show n < x.D.length by omega)];refine zG.iff (P:=((f.getD n []).length:Int)=dc x n∧∀i,i < (f.getD n []).length→RowOK x.P (dc y n) ((f.getD n []).getD i [])) (zG.ite fun q1=>?_) ?_
  ·obtain⟨t,t1,t2⟩:=all_W (n:=(f.getD n []).length) (S:=jJ x y f 0 (n:Int)) (fun i=> RowOK x.P (dc y n) ((f.getD n []).getD i [])) (fun i hi=> by
    have hrow:=hfr.2 _ (qV hi []);unfold jJ;rw[qh hn [],ob,if_pos (by omega),qh hi [],ob,ql (by omega) (by omega),ob,show(n:Int)+0=(n:Int) by omega,F99_dc hy vy (by omega),ob];by_cases c2:(((f.getD n []).getD i []).length:Int)=dc y n
    ·rw[if_pos c2]
     obtain⟨s,s1,s2⟩:=all_W (n:=((f.getD n []).getD i []).length) (S:=jI x y f 0 (n:Int) (i:Int)) (fun j=> 0≤nth ((f.getD n []).getD i []) j∧nth ((f.getD n []).getD i []) j < x.P) (fun j hj=> by
      unfold jI;rw[qh hn [],ob,qh hi [],ob,if_pos (by omega),zk hj,ob,ql (by omega) (by omega),ob,F54_eq,ob,ql (by omega) (by omega),ob];exact⟨decide (0≤nth ((f.getD n []).getD i []) j∧nth ((f.getD n []).getD i []) j≤x.P - 1),by split <;> rename_i q <;> simp at q ⊢ <;> simp[q],by simp; omega⟩) (by
      unfold jI;rw[qh hn [],ob,qh hi [],ob,if_neg (by omega)])
     rw[s1,ob];cases s with
     |true=>
      simp only[if_true];rw[ql (by omega) (by omega),ob];refine⟨true,rfl,fun _=>⟨c2,fun y hy=>?_⟩,fun _=> rfl⟩;obtain⟨j,hj,rfl⟩:=wK hy;have:=s2.1 rfl j hj
      rwa[qP hj]at this
     |false=>
      refine⟨false,rfl,fun c=> by(cases c),fun q=>?_⟩;exact s2.2 fun j hj=> by rw[qP hj]; exact q.2 _ (wC hj)
    ·rw[if_neg c2]
     exact⟨false,rfl,by simp only[wP,false_iff]; exact fun q=> c2 q.1⟩) (by
    unfold jJ;rw[qh hn [],ob,if_neg (by omega)])
   rw[t1,ob];cases t with
   |true=> exact⟨true,rfl,by simp only[true_iff]; exact t2.1 rfl⟩
   |false=> exact⟨false,rfl,by simp only[wP,false_iff]; exact fun q=> by have:=t2.2 q; cases this⟩
  ·unfold jg
   refine and_congr_right fun _=>⟨fun q r hr=>?_,fun q i hi=> q _ (qV hi [])⟩;obtain⟨i,hi,rfl⟩:=wK hr;have:=q i hi
   rwa[show(f.getD n []).getD i []=(f.getD n [])[i] by rw[gD,gB hi]; rfl]at this) fun i=> rfl
 rw[h1,ob];cases b with
 |true=> exact .of_true rfl ⟨c1,h2.1 rfl⟩
 |false=> exact .of_false rfl fun k=> by have:=h2.2 k.2; cases this
theorem F313_tells{x y:qa}{f:T3s}(hx:qJ x)(hy:qJ y)(hf:zS f)(vx:qS x)(vy:qS y)(hp:y.P=x.P)(hl:y.D.length=x.D.length):zZ (F313 x y f 0) (FamP x y f):=by
 have hr:=vx.p.range;have hdl:=vx.dl;unfold F313 FamP;by_cases c1:(f.length:Int)=x.D.length
 case neg=> rw[if_neg c1]; exact .of_false rfl fun k=> c1 k.1
 rw[if_pos c1];obtain⟨b,h1,h2⟩:=all_for (B:=xO x y f 0) (D:=F313_1_D x y f 0) (fun n=> jg x.P (dc x n) (dc y n) (f.getD n [])) (show f.length≤1000000 by omega) (fun n hn=> by
  have hmem:=qV hn [];have hfr:=hf.r _ hmem;have hdy:=qW vy n;unfold xO;rw[qh hn [],ob,qh (show n < x.D.length by omega) 0,ob,xn vx (show n < x.D.length by omega)];refine zG.iff (P:=((f.getD n []).length:Int)=dc x n∧(∀r∈f.getD n [],RowOK x.P (dc y n) r)∧True) (zG.ite fun q1=>?_) (by unfold jg; simp);rw[ql (by omega) (by omega),ob,show(n:Int)+0=(n:Int) by omega,F102_dc hy vy (by omega),ob];exact(F90_tells hr (by omega) (fun r hr=> by have:=hfr.2 r hr; omega)).then_L fun _=> .yes) fun i=> rfl
 rw[h1,ob];cases b with
 |true=> exact .of_true rfl ⟨c1,h2.1 rfl⟩
 |false=> exact .of_false rfl fun k=> by have:=h2.2 k.2; cases this
theorem FamP.fam{x y:qa}{f:T3s}(hx:qJ x)(hy:qJ y)(hf:zS f)(vx:qS x)(vy:qS y)(hp:y.P=x.P)(hl:y.D.length=x.D.length)(h:FamP x y f):Fam x y f:=
 ⟨hx,hy,hf,vx,vy,hp,hl,by have:=h.1; omega,fun n hn=> .of (h.2 n (by have:=h.1; omega))⟩
theorem F276_one{f:T3s}{g:T3s→Option Bool}{b:Bool}(h:g f=some b):F276 [f] g=some b:=by
 unfold F276 F307;have e0:((([f]:List T3s).length:Nat):Int)=1:=rfl;have hB:jH [f] g 0 ()=some (if b=true then .inr (.inr 0)else .inl ()):=by
  unfold jH;rw[show getI [f] 0=some f from rfl,ob,h,ob];cases b <;> rfl
 rw[e0,loop1 (D:=F307_1_D [f] g) (fun i=> rfl) hB];cases b <;> rfl
def ChainP(x y:qa)(f:T3s):Prop:=∀n,1≤n→n < x.D.length→∀i,i < dc x n→lin x.P (dc y (n - 1)) (qi (x.M.getD (n - 1) []) i) (f.getD (n - 1) [])=lin x.P (dc y (n - 1)) (qi (f.getD n []) i) (y.M.getD (n - 1) [])
theorem xI{x:qa}(hx:qJ x)(h:qS x){n:Nat}(hn:n+1 < x.D.length){i:Nat}(hi:i < dc x (n+1)):dfF x (n+1) (zH (dc x (n+1)) i)=qi (x.M.getD n []) i:=by
 have cX:1 < x.P:=by have:=h.p.range; omega
 have T:=js h hn;have hd:=qW h (n+1);have tO:=qW h n;have hu:=zT cX hi;have H:=jd h.p T.len T.rows (by omega) (show dc x n≤1000 by omega) hu;unfold dfF;rw[if_neg (by omega),vQ];refine(jS H).ext (row_ok T hi) fun j hj=>(lin_at H hj).trans ?_;rw[hu.len,show dot (nth (zH (dc x (n+1)) i)) (x.M.getD n []) (dc x (n+1)) j=nth (qi (x.M.getD n []) i) j by
  rw[←dot_unit (m:=x.M.getD n []) (j:=j) hi];exact jK fun k _=> by simp only; rw[jY hi]]
 exact .refl _ _
theorem Fam.step{x y:qa}{f:T3s}(F:Fam x y f){n:Nat}(hn:n+1 < x.D.length){i:Nat}(hi:i < dc x (n+1)):qD x.P (dc x n) (qi (x.M.getD n []) i)∧qD x.P (dc y (n+1)) (qi (f.getD (n+1) []) i)∧F80 x.P (f.getD n []) (qi (x.M.getD n []) i) (dc y n:Int)=some (lin x.P (dc y n) (qi (x.M.getD n []) i) (f.getD n []))∧F119 x.P (dc y n:Int) (qi (x.M.getD n []) i) (f.getD n [])=some (lin x.P (dc y n) (qi (x.M.getD n []) i) (f.getD n []))∧qD x.P (dc y n) (lin x.P (dc y n) (qi (x.M.getD n []) i) (f.getD n []))∧
  F273 y ((n+1:Nat):Int) (qi (f.getD (n+1) []) i)=some (lin x.P (dc y n) (qi (f.getD (n+1) []) i) (y.M.getD n []))∧F91 y ((n+1:Nat):Int) (qi (f.getD (n+1) []) i)=some (lin x.P (dc y n) (qi (f.getD (n+1) []) i) (y.M.getD n []))∧(lin x.P (dc y n) (qi (f.getD (n+1) []) i) (y.M.getD n [])).length≤8:=by
 have hd:=qW F.vx n;have hdy:=qW F.vy n;have hl:=F.l;have v1:=row_ok (js F.vx hn) hi;have v2:=row_ok (F.t (n+1) hn) hi;obtain⟨a1,a2,a3⟩:=linT F.vx.p (F.t n (by omega)) (by omega) (by omega) v1;obtain⟨b1,b2,b3,b4⟩:=df_eq F.sy F.vy (n:=n+1) (by omega) (v:=qi (f.getD (n+1) []) i) (by rw[F.pp]; exact v2);have e:dfF y (n+1) (qi (f.getD (n+1) []) i)=lin x.P (dc y n) (qi (f.getD (n+1) []) i) (y.M.getD n []):=by
  unfold dfF;rw[if_neg (by omega),vQ,F.pp]
 rw[e]at b1 b2 b4;exact⟨v1,v2,a1,a2,a3,b1,b2,b4⟩
theorem F271_tells{x y:qa}{f:T3s}(F:Fam x y f):zZ (F271 x y f) (ChainP x y f):=by
 have hdl:=F.vx.dl;have cX:1 < x.P:=by have:=F.vx.p.range; omega
 unfold F271 ChainP;have hl:=F.l;have hfl:=F.fl;obtain⟨b,h1,h2⟩:=all_for1 (B:=F271_1_B x y f) (D:=F271_1_D x y f) (fun n=>∀i,i < dc x n→lin x.P (dc y (n - 1)) (qi (x.M.getD (n - 1) []) i) (f.getD (n - 1) [])=lin x.P (dc y (n - 1)) (qi (f.getD n []) i) (y.M.getD (n - 1) [])) (show 1≤x.D.length by omega) (by omega) (fun n hn1 hn=> by
  obtain⟨n,rfl⟩:∃m,n=m+1:=⟨n - 1,by omega⟩;have hd:=qW F.vx (n+1);rw[vQ];unfold F271_1_B;obtain⟨t,t1,t2⟩:=all_W (n:=dc x (n+1)) (S:=F271_2_S x y f ((n+1:Nat):Int)) (fun i=> lin x.P (dc y n) (qi (x.M.getD n []) i) (f.getD n [])=lin x.P (dc y n) (qi (f.getD (n+1) []) i) (y.M.getD n [])) (fun i hi=> by
   obtain⟨v1,v2,a1,a2,a3,b1,b2,b3⟩:=F.step hn hi;have hu:=zT cX hi;have ed:=xI F.sx F.vx hn hi;obtain⟨d1, -, -, -⟩:=df_eq F.sx F.vx hn hu;rw[ed]at d1;have hT:=F.t (n+1) hn;have hTl:=hT.len;unfold F271_2_S;rw[qh hn 0,ob,xn F.vx hn,if_pos (by omega),F272_eq hi (by omega),ob,ql (by omega) (by omega),ob,d1,ob];have rf:F304 x y f (((n+1:Nat):Int) - 1) 0 (qi (x.M.getD n []) i)=some (lin x.P (dc y n) (qi (x.M.getD n []) i) (f.getD n [])):=by
    unfold F304;rw[show((n+1:Nat):Int) - 1=(n:Int) by omega,qh (show n < f.length by omega) [],ob,ql (by omega) (by omega),ob,show(n:Int)+0=(n:Int) by omega,F99_dc F.sy F.vy (by omega),ob,a1,ob]
   rw[rf,ob,qh (show n+1 < f.length by omega) [],ob,qh (show i < (f.getD (n+1) []).length by omega) [],ob]
   change WTells ((F273 y ((n+1:Nat):Int) (qi (f.getD (n+1) []) i)).bind _) _ _
   rw[b1,ob];refine WTells.iff ((F287_tells (by rw[a3.len]; have:=qW F.vy n; omega)).then_W fun _=>?_) ⟨fun q=> q.1,fun q=>⟨q,trivial⟩⟩;rw[ql (by omega) (by omega),ob];exact .yes) (by
   unfold F271_2_S;rw[qh hn 0,ob,xn F.vx hn,if_neg (by omega)])
  rw[t1,ob];cases t with
  |true=> exact⟨true,rfl,by simp only[true_iff]; exact t2.1 rfl⟩
  |false=> exact⟨false,rfl,by simp only[wP,false_iff]; exact fun q=> by have:=t2.2 q; cases this⟩) fun i=> rfl
 rw[h1,ob];cases b with
 |true=> exact .of_true rfl (h2.1 rfl)
 |false=> exact .of_false rfl fun k=> by have:=h2.2 k; cases this
theorem F308_tells{x y:qa}{f:T3s}(F:Fam x y f):zZ (F308 x y f) (ChainP x y f):=by
 have hdl:=F.vx.dl;have hxd:=F.sx.d;unfold F308 ChainP;have hl:=F.l;have hfl:=F.fl;have hml:=F.vx.ml;obtain⟨b,h1,h2⟩:=all_W1 (n:=x.D.length) (S:=F308_1_S x y f) (fun n=>∀i,i < dc x n→lin x.P (dc y (n - 1)) (qi (x.M.getD (n - 1) []) i) (f.getD (n - 1) [])=lin x.P (dc y (n - 1)) (qi (f.getD n []) i) (y.M.getD (n - 1) [])) (show 1≤x.D.length by omega) (fun n hn1 hn=> by
  obtain⟨n,rfl⟩:∃m,n=m+1:=⟨n - 1,by omega⟩;have hd:=qW F.vx (n+1);have hT:=F.t (n+1) hn;have hTl:=hT.len;have hM:=js F.vx hn;have hMl:=hM.len;rw[vQ];unfold F308_1_S;rw[ji hxd,ob,if_pos (by omega),qh (show n+1 < f.length by omega) [],ob];obtain⟨t,t1,t2⟩:=all_for (n:=(f.getD (n+1) []).length) (B:=F308_2_B x y f ((n+1:Nat):Int) (f.getD (n+1) [])) (D:=F308_2_D x y f ((n+1:Nat):Int) (f.getD (n+1) [])) (fun i=> lin x.P (dc y n) (qi (x.M.getD n []) i) (f.getD n [])=lin x.P (dc y n) (qi (f.getD (n+1) []) i) (y.M.getD n [])) (by omega) (fun i hi=> by
   obtain⟨v1,v2,a1,a2,a3,b1,b2,b3⟩:=F.step hn (i:=i) (by omega);unfold F308_2_B;rw[qh hi [],ob,ql (by omega) (by omega),ob,show((n+1:Nat):Int) - 1=(n:Int) by omega,qh (show n < x.M.length by omega) [],ob,qh (show i < (x.M.getD n []).length by omega) [],ob];have re:F309 x y f 0 (n:Int) (qi (x.M.getD n []) i)=some (lin x.P (dc y n) (qi (x.M.getD n []) i) (f.getD n [])):=by
    unfold F309;rw[ji hxd,ob,F56_eq,ob,if_pos (by simp; omega),ql (by omega) (by omega),ob,show(n:Int)+0=(n:Int) by omega,F102_dc F.sy F.vy (by omega),ob,qh (show n < f.length by omega) [],ob,a2,ob]
   change zG ((F309 x y f 0 (n:Int) (qi (x.M.getD n []) i)).bind _) _
   rw[re,ob]
   change zG ((F91 y ((n+1:Nat):Int) (qi (f.getD (n+1) []) i)).bind _) _
   rw[b2,ob];exact zG.iff ((F165_tells (by rw[a3.len]; have:=qW F.vy n; omega)).then_L fun _=> .yes) ⟨fun q=> q.1,fun q=>⟨q,trivial⟩⟩) fun i=> rfl
  rw[t1,ob];cases t with
  |true=>
   simp only[if_true];rw[ql (by omega) (by omega),ob];exact⟨true,rfl,by simp only[true_iff]; exact fun i hi=> t2.1 rfl i (by omega)⟩
  |false=> exact⟨false,rfl,by simp only[wP,false_iff]; exact fun q=> by have:=t2.2 fun i hi=> q i (by omega); cases this⟩) (by
  unfold F308_1_S;rw[ji hxd,ob,if_neg (by omega)])
 rw[h1,ob];cases b with
 |true=> exact .of_true rfl (h2.1 rfl)
 |false=> exact .of_false rfl fun k=> by have:=h2.2 k; cases this
theorem F102_neg{x:qa}(hx:qJ x)(h:qS x){n:Int}(hn:n < 0):F102 x n=some 0:=by
 have hd:=hx.d;unfold F102;rw[ji hx.d,ob,F56_eq,ob,if_neg (by simp; omega)]
theorem F102_xd{x:qa}(hx:qJ x)(h:qS x){n:Nat}(hn:n≤x.D.length):F102 x ((n:Int) - 1)=some (xd x n:Int):=by
 unfold xd;by_cases c:n=0
 ·subst c; rw[if_pos rfl]; exact F102_neg hx h (by omega)
 ·rw[if_neg c,show(n:Int) - 1=((n - 1:Nat):Int) by omega]; exact F102_dc hx h (by omega)
def sg(p:Int)(k:Nat):Int:=if k% 2=0 then 1 else p - 1
theorem xE{p:Int}(hp:IsP p){c w:Nat}{m:L2}(hl:m.length=c)(hm:Rows p w m)(hc:c≤1000)(hw:w≤1000):Lin p c w fun u=> lin p w u m:=by
 have L:=lin_take hp hl hm hc hw (b:=0);have e:∀u,qD p c u→u.take c=u:=fun u hu=> by rw[←hu.len,vK]
 refine⟨fun u hu=> jS (jd hp hl hm hc hw hu),fun u v k hu hv=>?_⟩;have aM:0 < p:=by have:=hp.range; omega
 have this:lin p w ((subv p u v k).take c) m=subv p (lin p w (u.take c) m) (lin p w (v.take c) m) k:=L.sub u v k hu hv;rw[e u hu,e v hv,e _ (qB aM hu.len hv.len)]at this;exact this
theorem wide_rows{x:qa}(h:WideC x){k:Nat}(hk:k+1 < x.D.length):(x.M.getD k []).length=dc x (k+1)∧Rows x.P (dc x k) (x.M.getD k []):=by
 have hml:=h.ml;have ht:=h.tab k (by omega);have hd:=h.dim hk;exact⟨by have:=ht.1; unfold dc; omega,fun r hr=>(ht.2 r hr).vec⟩
structure zI (s:qm):Prop where
 at0:0≤s.at_
 len:s.code.length≤1099511627776
 byte:∀b∈s.code,0≤b.val∧b.val≤255
theorem mask_ok(x:Int):0≤Go.IntKind.wrap .u64 (BitVec.ofInt (Go.IntKind.bits .u64) x &&& BitVec.ofInt (Go.IntKind.bits .u64) 16777215).toNat∧Go.IntKind.wrap .u64 (BitVec.ofInt (Go.IntKind.bits .u64) x &&& BitVec.ofInt (Go.IntKind.bits .u64) 16777215).toNat≤16777215:=by
 have h:(BitVec.ofInt (Go.IntKind.bits .u64) x &&& BitVec.ofInt (Go.IntKind.bits .u64) 16777215).toNat≤16777215:=by
  rw[BitVec.toNat_and];exact vM Nat.and_le_right (by decide)
 have e:∀m:Nat,m≤16777215→Go.IntKind.wrap .u64 (m:Int)=(m:Int):=fun m hm=> by
  unfold Go.IntKind.wrap;simp[Go.IntKind.bits,Go.IntKind.signed];omega
 rw[e _ h];omega
theorem jc{s:qm}(hs:zI s)(n:Int):∃v s',F416 s n=some ⟨v,s'⟩∧zI s'∧0≤v∧(1≤n→v < n)∧(n < 1→v=0):=by
 have h1:=hs.at0;have h2:=hs.len;unfold F416;by_cases c:n < 1
 ·rw[if_pos c]; exact⟨_,_,rfl,hs,by omega,fun q=> by omega,fun _=> rfl⟩
 rw[if_neg c];obtain⟨m1,m2⟩:=mask_ok (Int.fdiv (Go.IntKind.wrap .u64 ((Go.IntKind.wrap .u64 (s.hash*6364136223846793005))+1442695040888963407)) (2^min 33 (Go.IntKind.bits .u64)));generalize Go.IntKind.wrap .u64 (BitVec.ofInt (Go.IntKind.bits .u64) (Int.fdiv (Go.IntKind.wrap .u64 ((Go.IntKind.wrap .u64 (s.hash*6364136223846793005))+1442695040888963407)) (2^min 33 (Go.IntKind.bits .u64)))&&& BitVec.ofInt (Go.IntKind.bits .u64) 16777215).toNat=X at m1 m2 ⊢;rw[ql (by omega) (by omega),ob];have md:∀Y:Int,0≤Y→remI Y n=some (Y.tmod n)∧0≤Y.tmod n∧Y.tmod n < n:=fun Y hY=>⟨jR (by omega),Int.tmod_nonneg _ hY,Int.tmod_lt_of_pos _ (by omega)⟩;by_cases c2:s.at_ < (s.code.length:Int)
 ·obtain⟨i,hi⟩:∃i:Nat,s.at_=(i:Int):=⟨s.at_.toNat,by omega⟩
  have hil:i < s.code.length:=by omega
  obtain⟨b1,b2⟩:=hs.byte _ (wC hil);obtain⟨r1,r2,r3⟩:=md (X+s.code[i].val) (by omega);rw[if_pos c2,hi,qk hil,ob,ql (by omega) (by omega),ob,ql (by omega) (by omega),ob,ql (by omega) (by omega),ob,r1,ob];exact⟨_,_,rfl,⟨by simp only; omega,h2,hs.byte⟩,r2,fun _=> r3,fun q=> absurd q c⟩
 ·obtain⟨r1,r2,r3⟩:=md X m1
  rw[if_neg c2,r1,ob];exact⟨_,_,rfl,⟨h1,h2,hs.byte⟩,r2,fun _=> r3,fun q=> absurd q c⟩
theorem pick_ok{s:qm}(hs:zI s){l:L1}(hl:l≠ [])(hb:l.length≤1000):∃v s',F412 s l=some ⟨v,s'⟩∧zI s'∧v∈l:=by
 have h0:0 < l.length:=List.length_pos_iff.2 hl;obtain⟨v,s',e,h1,h2,h3, -⟩:=jc hs (l.length:Int);have h4:=h3 (by omega);obtain⟨i,hi⟩:∃i:Nat,v=(i:Int):=⟨v.toNat,by omega⟩;subst hi;have hil:i < l.length:=by omega
 unfold F412;rw[e,ob,qk hil,ob];exact⟨_,_,rfl,h1,wC hil⟩
theorem vector_ok{s:qm}(hs:zI s){p:Int}(hp:1≤p){n:Nat}(hn:n≤1000):∃v s',F424 s p (n:Int)=some ⟨v,s'⟩∧zI s'∧v.length=n∧∀y∈v,0≤y∧y < p:=by
 obtain⟨c,s1,e,k1,k2,k3, -⟩:=jc hs 3;unfold F424;rw[e,ob];obtain⟨t,g1,g2⟩:=qQ (S:=F424_1_S p ⟨c,s1⟩) (fun s=>(s.2.2.2.2).toNat) (fun s=>∃ (q:qm) (o:L1) (m:Nat),s=(q.code,q.at_,q.hash,o,(m:Int))∧zI q∧o.length+m=n∧∀y∈o,0≤y∧y < p)
  (fun t=>∃ (q:qm) (o:L1),t=(q.code,q.at_,q.hash,o)∧zI q∧o.length=n∧∀y∈o,0≤y∧y < p) (s:=(s1.code,s1.at_,s1.hash,[],(n:Int))) ⟨s1,[],n,rfl,k1,by simp,fun y hy=> nomatch hy⟩ (by
  rintro _ ⟨q,o,m,rfl,h1,h2,h3⟩;unfold F424_1_S;simp only;by_cases cm:0 < (m:Int)
  ·left
   rw[if_pos cm];have ext:∀y,0≤y→y < p→∀z∈o++[y],0≤z∧z < p:=fun y y0 y1 z hz=> by
    rcases wN.1 hz with hz|hz
    ·exact h3 z hz
    ·rw[List.mem_singleton.1 hz]; exact⟨y0,y1⟩
   by_cases cc:c=0
   ·obtain⟨x,q2,e2,j1,j2,j3, -⟩:=jc h1 p
    rw[if_pos cc,e2,ob,qU (by simp; omega) (by simp; omega),ob,ql (by omega) (by omega),ob];exact⟨_,rfl,⟨q2,o++[x],m - 1,by simp only[wH,true_and]; omega,j1,by simp; omega,ext x j2 (j3 hp)⟩,by simp only; omega⟩
   ·obtain⟨x0,q1,e1,i1,i2,i3, -⟩:=jc h1 2
    rw[if_neg cc,e1,ob];simp only;by_cases c0:x0=0
    ·obtain⟨x,q2,e2,j1,j2,j3, -⟩:=jc i1 p
     rw[if_pos c0,e2,ob,qU (by simp; omega) (by simp; omega),ob,ql (by omega) (by omega),ob];exact⟨_,rfl,⟨q2,o++[x],m - 1,by simp only[wH,true_and]; omega,j1,by simp; omega,ext x j2 (j3 hp)⟩,by simp only; omega⟩
    ·rw[if_neg c0,qU (by simp; omega) (by simp; omega),ob,ql (by omega) (by omega),ob]
     exact⟨_,rfl,⟨q1,o++[0],m - 1,by simp only[wH,true_and]; omega,i1,by simp; omega,ext 0 (by omega) (by omega)⟩,by simp only; omega⟩
  ·right
   rw[if_neg cm];exact⟨_,rfl,⟨q,o,rfl,h1,by omega,h3⟩⟩)
 obtain⟨q,o,rfl,h1,h2,h3⟩:=g2;rw[g1,ob];exact⟨o,q,rfl,h1,h2,h3⟩
theorem from_ok{code:List U8}(hl:code.length≤1099511627776)(hb:∀b∈code,0≤b.val∧b.val≤255):∃s,F405 code=some s∧zI s:=by
 unfold F405;obtain⟨t,g1, -⟩:=qQ (S:=F405_S code) (fun s=>(4096 - s.1).toNat) (fun s=> 0≤s.1) (fun _=> True) (s:=(0,Go.IntKind.wrap .u64 (12731+Go.IntKind.wrap .u64 (code.length:Int)))) (yE 0) (by
  rintro⟨i,h⟩ h0;simp only at h0;unfold F405_S;simp only;by_cases c1:i < (code.length:Int)
  ·rw[if_pos c1]
   by_cases c2:i < 4096
   ·left
    obtain⟨k,rfl⟩:∃k:Nat,i=(k:Int):=⟨i.toNat,by omega⟩;rw[if_pos c2,qk (by omega),ob,ql (by omega) (by omega),ob];exact⟨_,rfl,by simp only; omega,by simp only; omega⟩
   ·right; rw[if_neg c2]; exact⟨_,rfl,trivial⟩
  ·right; rw[if_neg c1]; exact⟨_,rfl,trivial⟩)
 rw[g1,ob];exact⟨_,rfl,⟨by simp only; omega,hl,hb⟩⟩
theorem coll_one{β:Type}(n:Nat)(f:Nat→β):coll n (fun i=>[f i])=(List.range n).map f:=by
 induction n with
 |zero=> rfl
 |succ n ih=> rw[coll_succ,ih,List.range_succ,uB]; rfl
theorem take_one{α:Type}{l:List α}{n:Nat}(d:α)(h:n < l.length):l.take n++[l.getD n d]=l.take (n+1):=by
 rw[gD,gB h];exact wZ h
theorem xr{x:qa}(h:WideC x):qJ x:=by
 have hml:=h.ml;have hdl:=h.dl;refine⟨by omega,by omega,fun m hm=>?_⟩;obtain⟨k,hk,rfl⟩:=wK hm;obtain⟨r1,r2⟩:=wide_rows h (k:=k) (by omega);rw[mapsD hk]at r1 r2;have a:=dc_lew h (k+1);have b:=dc_lew h k;exact⟨by omega,fun r hr=> by have:=(r2 r hr).len; omega⟩
theorem vec_of{p:Int}{w:Nat}{v:L1}(hl:v.length=w)(h:∀y∈v,0≤y∧y < p):qD p w v:=⟨hl,fun j hj=> by
 rw[qP (by omega)]; exact h _ (wC (by omega))⟩
theorem zW{α:Type}{l m:List α}{k:Nat}{d:α}(h:k < l.length):(l++m).getD k d=l.getD k d:=by
 rw[gD,gC h,gD]
theorem getD_app_one{α:Type}{l:List α}{y d:α}:(l++[y]).getD l.length d=y:=by
 rw[gD,gI (wE _),uF]; rfl
theorem wide_snoc{x:qa}(h:WideC x){d:Nat}{rows:L2}(hd:d≤8)(hr:rows.length=d)(hR:Rows x.P (dc x (x.D.length - 1)) rows)(hl:x.D.length≤99):WideC ⟨x.P,x.D++[(d:Int)],x.M++[rows]⟩:=by
 have hml:=h.ml;have hdl:=h.dl;refine⟨h.p,by simp; omega,by simp; omega,fun e he=>?_,fun k hk=>?_⟩
 ·rcases wN.1 he with q|q
  ·exact h.dims e q
  ·rw[List.mem_singleton.1 q]; omega
 ·simp only[wR,List.length_singleton]at hk
  unfold jC;simp only;by_cases c:k < x.M.length
  ·have:=h.tab k c
   unfold jC at this;rw[zW (by omega),zW (by omega),zW c];exact this
  ·have hk':k=x.M.length:=by omega
   have e1:(x.D++[(d:Int)]).getD (k+1) 0=(d:Int):=by rw[show k+1=x.D.length by omega,getD_app_one]
   have e2:(x.D++[(d:Int)]).getD k 0=(dc x (x.D.length - 1):Int):=by
    rw[zW (by omega),show k=x.D.length - 1 by omega];exact dc_atw h (by omega)
   rw[e1,e2,hk',getD_app_one];refine⟨by omega,fun r hr'=>?_⟩;have v:=hR r hr';refine⟨by rw[v.len],fun y hy=>?_⟩;obtain⟨j,hj,rfl⟩:=wK hy;have:=v.rng j (by have:=v.len; omega)
   rwa[qP hj]at this
structure DrawnC (x:qa):Prop where
 w:WideC x
 l:x.D.length≤6
 d:∀e∈x.D,0≤e∧e≤8
theorem cyc_one{x:qa}(hx:qJ x)(h:WideC x){n:Nat}(hn:n < x.D.length):∃K,F98 x (n:Int)=some K∧Red x.P (dc x n) K:=by
 have cX:1 < x.P:=by have:=h.p.range; omega
 have hd:=h.dim hn;have hml:=h.ml;have hxd:=hx.d;unfold F98;rw[F99_at hx.d hn,ob];rcases Nat.eq_zero_or_pos n with h0|h0
 ·subst h0
  have hdn:x.D.getD 0 0=(dc x 0:Int):=dc_atw h hn;rw[show((0:Nat):Int)=0 from rfl,F76_0 hx.d hn hdn (by omega),ob,hdn,kernel_none h.p (by omega),ob];exact⟨_,rfl,units_red cX _⟩
 ·obtain⟨k,rfl⟩:∃k,n=k+1:=⟨n - 1,by omega⟩
  have hk:k < x.M.length:=by omega
  have ht:=h.tab k hk;have hdk:=h.dim (show k < x.D.length by omega);have hr:Rows x.P (dc x k) (x.M.getD k []):=fun r hr=>(ht.2 r hr).vec;have hlen:=ht.1;have hdc:dc x (k+1)=(x.M.getD k []).length:=by unfold dc; omega
  have hw:=dc_lew h k;obtain⟨K,k1, -,k3, -⟩:=kernel_full h.p hr (by omega) (by omega);rw[F76_eq hx.d hn hk,ob,←hlen,k1,ob,hdc];exact⟨_,rfl,k3⟩
structure CodeOK (code:List U8):Prop where
 l:code.length≤1099511627776
 b:∀b∈code,0≤b.val∧b.val≤255
theorem red_same{p:Int}{w:Nat}(hp:1 < p){A B:L2}(hA:Red p w A)(hB:Red p w B)(h:∀v,Sp p w A v↔Sp p w B v):A=B:=
 zN.same hp (zN.self hA) ⟨hB,fun v=>(h v).symm⟩
def LongU(a:U8):Prop:=0≤a.val∧a.val≤255
structure PB (s0 ms:T3s) (B:Nat→Nat→Nat→Prop) (φ:Nat→Nat→Nat→Nat×Nat×Nat) (val:Nat→Nat→Nat→Int) (D:Nat→Nat→Nat→Prop) (s:T3s):Prop where
 shp:Shp s s0
 at':∀k i j,InT ms k i j→B k i j→(D k i j→xv s (φ k i j).1 (φ k i j).2.1 (φ k i j).2.2=val k i j)∧(¬D k i j→xv s (φ k i j).1 (φ k i j).2.1 (φ k i j).2.2=xv s0 (φ k i j).1 (φ k i j).2.1 (φ k i j).2.2)
theorem PB.imp{s0 ms:T3s}{B:Nat→Nat→Nat→Prop}{φ:Nat→Nat→Nat→Nat×Nat×Nat}{val:Nat→Nat→Nat→Int}{D D':Nat→Nat→Nat→Prop}{s:T3s}(h:PB s0 ms B φ val D s)(hd:∀k i j,InT ms k i j→B k i j→(D k i j↔D' k i j)):PB s0 ms B φ val D' s:=
 ⟨h.shp,fun k i j hin hb=>⟨fun d=>(h.at' k i j hin hb).1 ((hd k i j hin hb).2 d),fun d=>(h.at' k i j hin hb).2 fun x=> d ((hd k i j hin hb).1 x)⟩⟩
theorem PB.zero{s0 ms:T3s}{B:Nat→Nat→Nat→Prop}{φ:Nat→Nat→Nat→Nat×Nat×Nat}{val:Nat→Nat→Nat→Int}:PB s0 ms B φ val (fun _ _ _=> False) s0:=⟨.refl _,fun k i j _ _=>⟨fun x=> x.elim,fun _=> rfl⟩⟩
theorem PB.step{s0 ms:T3s}{B:Nat→Nat→Nat→Prop}{φ:Nat→Nat→Nat→Nat×Nat×Nat}{val:Nat→Nat→Nat→Int}(hi:∀k i j,InT ms k i j→B k i j→InT s0 (φ k i j).1 (φ k i j).2.1 (φ k i j).2.2)(hinj:∀k i j k' i' j',InT ms k i j→InT ms k' i' j'→B k i j→B k' i' j'→φ k i j=φ k' i' j'→k=k'∧i=i'∧j=j')
  {D D':Nat→Nat→Nat→Prop} {s:T3s} (h:PB s0 ms B φ val D s) {k i j:Nat} (hin:InT ms k i j) (hB:B k i j) (hd:∀k' i' j',D' k' i' j'↔D k' i' j'∨(k'=k∧i'=i∧j'=j)):PB s0 ms B φ val D' (put3 s (φ k i j).1 (φ k i j).2.1 (φ k i j).2.2 (val k i j)):=by
 have hs:=h.shp.inT (hi k i j hin hB);refine⟨(put3_shp hs _).trans h.shp,fun k' i' j' hin' hB'=>?_⟩;rw[put3_at hs];by_cases e:k'=k∧i'=i∧j'=j
 ·obtain⟨rfl,rfl,rfl⟩:=e
  rw[if_pos ⟨rfl,rfl,rfl⟩];exact⟨fun _=> rfl,fun d=> absurd ((hd _ _ _).2 (.inr ⟨rfl,rfl,rfl⟩)) d⟩
 ·rw[if_neg fun q=> e (hinj k' i' j' k i j hin' hin hB' hB (Prod.ext q.1 (Prod.ext q.2.1 q.2.2)))]
  refine⟨fun d=>(h.at' _ _ _ hin' hB').1 (((hd _ _ _).1 d).resolve_right e),fun d=>(h.at' _ _ _ hin' hB').2 fun x=> d ((hd _ _ _).2 (.inl x))⟩
def im(x y:qa)(f:T3s)(n:Nat)(v:L1):L1:=lin x.P (dc y n) v (f.getD n [])
theorem xz{x y:qa}{f:T3s}(F:Fam x y f){n:Nat}(hn:n < x.D.length):Lin x.P (dc x n) (dc y n) (im x y f n):=
 xE F.vx.p (F.t n hn).len (F.t n hn).rows (by have:=qW F.vx n; omega) (by have:=qW F.vy n; omega)
theorem im_run{x y:qa}{f:T3s}(F:Fam x y f){n:Nat}(hn:n < x.D.length){v:L1}(hv:qD x.P (dc x n) v):F304 x y f (n:Int) 0 v=some (im x y f n v)∧F309 x y f 0 (n:Int) v=some (im x y f n v):=by
 have hl:=F.l;have hfl:=F.fl;have hdl:=F.vx.dl;have hdx:=qW F.vx n;have hdy:=qW F.vy n;obtain⟨a1,a2,a3⟩:=linT F.vx.p (F.t n hn) (by omega) (by omega) hv;constructor
 ·unfold F304
  rw[qh (show n < f.length by omega) [],ob,ql (by omega) (by omega),ob,show(n:Int)+0=(n:Int) by omega,F99_dc F.sy F.vy (by omega),ob,a1,ob];rfl
 ·have e:F102 y (n:Int)=some (dc y n:Int):=by
   have:=F102_xd F.sy F.vy (n:=n+1) (by omega);rw[show((n+1:Nat):Int) - 1=(n:Int) by omega]at this;rw[this]; unfold xd; rw[if_neg (by omega),vQ]
  unfold F309;rw[ji F.sx.d,ob,F56_eq,ob,if_pos (by simp; omega),ql (by omega) (by omega),ob,show(n:Int)+0=(n:Int) by omega,e,ob,qh (show n < f.length by omega) [],ob,a2,ob];rfl
theorem ech_same{p:Int}{w:Nat}(hp:IsP p){B L E:L2}(hB:Red p w B)(hL:Rows p w L)(hE:zN p w (B++L) E):B.length≤E.length∧(E.length≤B.length↔∀r∈L,Sp p w B r):=by
 have cX:1 < p:=by have:=hp.range; omega
 have aM:0 < p:=by omega
 have hBL:Rows p w (B++L):=fun r hr=> by
  rcases wN.1 hr with q|q
  ·exact hB.ok r q
  ·exact hL r q
 have inE:∀r∈B++L,Sp p w E r:=fun r hr=>(hE.sp r).2 (.mem aM hBL hr);refine⟨red_sub aM hB hE.red fun v hv=> inE v (vJ _ hv),fun h r hr=> vY fun c=>?_,fun h=> red_sub aM hE.red hB fun v hv=>((hE.sp v).1 (.mem aM hE.red.ok hv)).into aM hB.ok fun s hs=>?_⟩
 ·obtain⟨G,g1,g2,g3⟩:=ech_step cX hp.inv (zN.self hB) hB.ok (hL r hr)
  have:=red_sub aM g1.red hE.red fun v hv=>((g1.sp v).1 (.mem aM g1.red.ok hv)).into aM hE.red.ok fun s hs=> by
   rcases wN.1 hs with q|q
   ·exact inE s (vJ _ q)
   ·have:s=r:=by simpa using q
    rw[this]; exact inE r (vZ _ hr)
  have:=g3 c;omega
 ·rcases wN.1 hs with q|q
  ·exact .mem aM hB.ok q
  ·exact h s q
structure RankOf (x y:qa) (f:T3s) (n:Nat) (K B:L2) (r:Int):Prop where
 e:∃E,zN x.P (dc y n) (B++K.map (im x y f n)) E∧r=(E.length:Int) - B.length
theorem rank_run{x y:qa}{f:T3s}(F:Fam x y f){n:Nat}(hn:n < x.D.length):∃K B r,F98 x (n:Int)=some K∧F100 x (n:Int)=some K∧Red x.P (dc x n) K∧F251 y (n:Int)=some B∧F186 y (n:Int)=some B∧Red x.P (dc y n) B∧F491 x y f (n:Int)=some r∧F492 x y f (n:Int)=some r∧RankOf x y f n K B r:=by
 have cX:1 < x.P:=by have:=F.vx.p.range; omega
 have aM:0 < x.P:=by omega
 have hdx:=qW F.vx n;have hdy:=qW F.vy n;obtain⟨K,k1,k2,k3⟩:=cycles_same F.sx F.vx hn;obtain⟨B,b1,b2,b3⟩:=bounds_same F.sy F.vy (show n < y.D.length by rw[F.l]; exact hn);rw[F.pp]at b3;have k3:Red x.P (dc x n) K:=k3;have hkl:=jk k3;have hbl:=jk b3;have hL:=(xz F hn).rows k3.ok;have hBL:Rows x.P (dc y n) (B++K.map (im x y f n)):=fun r hr=> by
  rcases wN.1 hr with q|q
  ·exact b3.ok r q
  ·exact hL r q
 have hlen:(B++K.map (im x y f n)).length≤1000:=by simp; omega
 obtain⟨E,e1,e2⟩:=F131_ech F.vx.p hBL (by omega) (by omega);obtain⟨E',e3,e4⟩:=F133_ech F.vx.p hBL (by omega) (by omega);have ee:E'=E:=e4.same cX e2;subst ee;have hge:=(ech_same F.vx.p b3 hL e2).1;have hEl:=jk e2.red;refine⟨K,B,(E'.length:Int) - B.length,k1,k2,k3,b1,b2,b3,?_,?_,⟨E',e2,rfl⟩⟩
 ·unfold F491
  rw[k1,ob,b1,ob,qU (by simp; omega) (by simp; omega),ob,yI,forR_map (l:=K) (im x y f n) (B:=F491_1_B x y f (n:Int) K B) (D:=F491_1_D x y f (n:Int) K B) (s0:=B) (by omega) (fun k hk s hs=> by
   unfold F491_1_B;rw[qk hk,ob,(im_run F hn (k3.ok _ (wC hk))).1,ob,qU (by simp; omega) (by simp; omega),ob]) (fun i s=> rfl),ob,e1,ob,ql (by omega) (by omega),ob]
 ·unfold F492
  rw[b2,ob,k2,ob,forR_map (l:=K) (im x y f n) (B:=F492_1_B x y f (n:Int) B K) (D:=F492_1_D x y f (n:Int) B K) (s0:=B) (by omega) (fun k hk s hs=> by
   unfold F492_1_B;rw[qk hk,ob,(im_run F hn (k3.ok _ (wC hk))).2,ob,qU (by simp; omega) (by simp; omega),ob]) (fun i s=> rfl),ob,e3,ob,ql (by omega) (by omega),ob]
theorem rank_homo{x y:qa}{f g:T3s}(F:Fam x y f)(G:Fam x y g){n:Nat}(hn:n < x.D.length){K B:L2}{r s:Int}(hK:Red x.P (dc x n) K)(hB:Red x.P (dc y n) B)(h:∀z∈K,Sp x.P (dc y n) B (subv x.P (im x y f n z) (im x y g n z) 1))(hr:RankOf x y f n K B r)(hs:RankOf x y g n K B s):r=s:=by
 have cX:1 < x.P:=by have:=F.vx.p.range; omega
 have aM:0 < x.P:=by omega
 obtain⟨E,e1,rfl⟩:=hr.e;obtain⟨E',e2,rfl⟩:=hs.e;have rows:∀ {f:T3s},Fam x y f→Rows x.P (dc y n) (B++K.map (im x y f n)):=fun F r hr=> by
  rcases wN.1 hr with q|q
  ·exact hB.ok r q
  ·exact(xz F hn).rows hK.ok r q
 have half:∀ {f g:T3s},Fam x y f→Fam x y g→(∀z∈K,Sp x.P (dc y n) B (subv x.P (im x y f n z) (im x y g n z) 1))→∀v,Sp x.P (dc y n) (B++K.map (im x y f n)) v→Sp x.P (dc y n) (B++K.map (im x y g n)) v:=fun {f g} F G h v hv=> hv.into aM (rows G) fun r hr=> by
  rcases wN.1 hr with q|q
  ·exact .mem aM (rows G) (vJ _ q)
  ·obtain⟨z,hz,rfl⟩:=wQ.1 q
   have a:=(h z hz).mono (T:=B++K.map (im x y g n)) fun s hs=> vJ _ hs;have b:Sp x.P (dc y n) (B++K.map (im x y g n)) (im x y g n z):= .mem aM (rows G) (vZ _ (List.mem_map_of_mem hz));exact(sub_iff aM (rows G) ((xz F hn).ok z (hK.ok z hz)) b 1).1 a
 have back:∀z∈K,Sp x.P (dc y n) B (subv x.P (im x y g n z) (im x y f n z) 1):=fun z hz=> by
  have hf:=(xz F hn).ok z (hK.ok z hz);have hg:=(xz G hn).ok z (hK.ok z hz);have:=(h z hz).scale aM hB.ok 1;have e:subv x.P (zv (dc y n)) (subv x.P (im x y f n z) (im x y g n z) 1) 1=subv x.P (im x y g n z) (im x y f n z) 1:=by
   have hs:=qB (p:=x.P) aM hf.len hg.len (k:=1);refine(qB aM (zj aM _).len hs.len).ext (qB aM hg.len hf.len) fun j hj=>?_;refine(qL (zj aM _).len hs.len hj).trans (Cg.trans (.sub (.refl _ _) (.mul (.refl _ _) (qL hf.len hg.len hj))) (Cg.symm ((qL hg.len hf.len hj).trans ⟨0,by rw[zh]; grind⟩)))
  rw[e]at this;exact this
 rw[red_same cX e1.red e2.red fun v=>(e1.sp v).trans ((⟨half F G h v,half G F back v⟩:_↔_).trans (e2.sp v).symm)]
structure FamS (p:Int) (N:Nat) (c w:Nat→Nat) (f:T3s):Prop where
 fl:f.length=N
 t:∀n,n < N→TabN p (c n) (w n) (f.getD n [])
theorem Fam.fs{x y:qa}{f:T3s}(F:Fam x y f):FamS x.P x.D.length (dc x) (dc y) f:=⟨F.fl,F.t⟩
def smT(p k:Int)(f g:T3s)(n:Nat):L2:=(List.range (f.getD n []).length).map fun i=> subv p (qi (f.getD n []) i) (qi (g.getD n []) i) (-k)
def sumF(p:Int)(f g:T3s)(k:Int):T3s:=(List.range f.length).map (smT p k f g)
theorem sumF_at{p k:Int}{f g:T3s}{n:Nat}(h:n < f.length):(sumF p f g k).getD n []=smT p k f g n:=by
 unfold sumF;rw[gD,gB (by simpa using h)];simp
theorem smT_row{p k:Int}{f g:T3s}{n i:Nat}(h:i < (f.getD n []).length):qi (smT p k f g n) i=subv p (qi (f.getD n []) i) (qi (g.getD n []) i) (-k):=by
 rw[qC (by unfold smT; rw[vX,List.length_range]; exact h)];unfold smT;rw[List.getElem_map,List.getElem_range]
theorem sum_fs{p k:Int}{N:Nat}{c w:Nat→Nat}{f g:T3s}(hp:IsP p)(F:FamS p N c w f)(G:FamS p N c w g):FamS p N c w (sumF p f g k):=by
 have aM:0 < p:=by have:=hp.range; omega
 refine⟨by simp[sumF,F.fl],fun n hn=>?_⟩;rw[sumF_at (by rw[F.fl]; exact hn)];have A:=F.t n hn;have B:=G.t n hn;refine⟨by unfold smT; rw[vX,List.length_range,A.len],fun r hr=>?_⟩;obtain⟨i,hi,rfl⟩:=wQ.1 hr;have hi:=wX.1 hi;exact qB aM (A.rows _ (zx hi)).len (B.rows _ (zx (by rw[B.len,←A.len]; exact hi))).len
theorem F490_eq{p k:Int}{N:Nat}{c w:Nat→Nat}{f g:T3s}(hp:IsP p)(hk: -7≤k∧k≤7)(hN:N≤100)(hc:∀n,c n≤100∧w n≤100)(F:FamS p N c w f)(G:FamS p N c w g):F490 p f g k=some (sumF p f g k):=by
 have hpr:=hp.range;have hfl:=F.fl;have hgl:=G.fl;have row:∀ (o:T3s) (q:L2) (n:Nat),n < N→∀i,i < c n→qA (F490_3_S p f g k o (n:Int) q (i:Int)) ([],0)=some (subv p (qi (f.getD n []) i) (qi (g.getD n []) i) (-k)):=fun o q n hn i hi=> by
  have A:=F.t n hn;have B:=G.t n hn;have hA:=A.rows _ (zx (show i < (f.getD n []).length by rw[A.len]; exact hi));have hB:=B.rows _ (zx (show i < (g.getD n []).length by rw[B.len]; exact hi));have hcn:=hc n;have hAl:=A.len;have hBl:=B.len;have ea:=hA.len;have eb:=hB.len;have e:subv p (qi (f.getD n []) i) (qi (g.getD n []) i) (-k)=coll (w n) fun j=>[(nth (qi (f.getD n []) i) j - -k*nth (qi (g.getD n []) i) j)% p]:=by
   rw[coll_one];apply yO (by rw[(qB (p:=p) (by omega) ea eb).len]; simp);intro j h1 h2;have hj:j < w n:=by simpa using h2
   have:=zE (p:=p) (k:= -k) ea eb hj;rw[qP h1]at this;rw[this]; simp
  rw[e];have g1:getI f (n:Int)=some (f.getD n []):=qh (by omega) [];have g2:getI g (n:Int)=some (g.getD n []):=qh (by omega) [];have g3:getI (f.getD n []) (i:Int)=some (qi (f.getD n []) i):=by rw[qk (by omega),qC (by omega)]
  have g4:getI (g.getD n []) (i:Int)=some (qi (g.getD n []) i):=by rw[qk (by omega),qC (by omega)]
  refine xw (n:=w n) _ (fun j=> by simp) (fun j s hj hs=>?_) fun s=>?_
  ·have ra:=hA.rng j hj
   have rb:=hB.rng j hj;have mk: -42≤k*nth (qi (g.getD n []) i) j∧k*nth (qi (g.getD n []) i) j≤42:=by
    have h7:nth (qi (g.getD n []) i) j≤6:=by omega
    have h0:=rb.1;constructor
    ·have:=Int.mul_le_mul_of_nonneg_right (show -7≤k from hk.1) h0
     omega
    ·have:=Int.mul_le_mul_of_nonneg_right (show k≤7 from hk.2) h0
     omega
   unfold F490_3_S;simp only;rw[g1,ob,g3,ob,if_pos (by omega),zk (by omega),ob,g2,ob,g4,ob,zk (by omega),ob,ql (by omega) (by omega),ob,ql (by omega) (by omega),ob,F127_eq hp.range,ob,qU (by simp; omega) (by simp; omega),ob,ql (by omega) (by omega),ob,show nth (qi (f.getD n []) i) j - -k*nth (qi (g.getD n []) i) j=nth (qi (f.getD n []) i) j+k*nth (qi (g.getD n []) i) j by grind]
  ·unfold F490_3_S
   simp only;rw[g1,ob,g3,ob,if_neg (by omega)]
 have tab:∀ (o:T3s) (n:Nat),n < N→qA (F490_2_S p f g k o (n:Int)) ([],0)=some (smT p k f g n):=fun o n hn=> by
  have A:=F.t n hn;have hcn:=hc n;have hAl:=A.len;have g1:getI f (n:Int)=some (f.getD n []):=qh (by omega) [];unfold smT;rw[←coll_one];refine xw (n:=(f.getD n []).length) _ (fun j=> by simp) (fun i s hi hs=>?_) fun s=>?_
  ·unfold F490_2_S
   simp only;rw[g1,ob,if_pos (by omega),row _ _ n hn i (by omega),ob,qU (by simp; omega) (by simp; omega),ob,ql (by omega) (by omega),ob]
  ·unfold F490_2_S
   simp only;rw[g1,ob,if_neg (by omega)]
 unfold F490;have:=forR_map (l:=List.range f.length) (smT p k f g) (B:=F490_1_B p f g k) (D:=F490_1_D p f g k) (s0:=[]) (by simp; omega) (fun n hn s hs=> by
  have hn':n < N:=by simpa[hfl]using hn
  unfold F490_1_B;rw[tab s n hn',ob,qU (by simp; simp at hs; omega) (by simp; simp at hs; omega),ob,List.getElem_range]) (fun i s=> rfl)
 rw[List.length_range]at this;rw[this,ob,yI];rfl
theorem sum_fam{x y:qa}{f g:T3s}{k:Int}(F:Fam x y f)(G:Fam x y g):Fam x y (sumF x.P f g k):=by
 have hs:=sum_fs (k:=k) F.vx.p F.fs G.fs;have hdl:=F.vx.dl;refine {F with sf:=⟨?_,fun m hm=>⟨?_,fun r hr=>?_⟩⟩,fl:=hs.fl,t:=hs.t}
 ·rw[hs.fl]; have:=F.sx.d; omega
 all_goals
  obtain⟨n,hn,rfl⟩:=wK hm;have hn':n < x.D.length:=by rw[←hs.fl]; exact hn
  have T:=hs.t n hn';rw[gD,gB hn,yL]at T;have:=qW F.vx n;have:=qW F.vy n
 ·rw[T.len]; omega
 ·have:=(T.rows r hr).len; omega
theorem im_sum{x y:qa}{f g:T3s}{k:Int}(F:Fam x y f)(G:Fam x y g){n:Nat}(hn:n < x.D.length){v:L1}(hv:qD x.P (dc x n) v):im x y (sumF x.P f g k) n v=subv x.P (im x y f n v) (im x y g n v) (-k):=by
 have cX:1 < x.P:=by have:=F.vx.p.range; omega
 have aM:0 < x.P:=by omega
 have H:=sum_fam (k:=k) F G;have hdx:=qW F.vx n;have hdy:=qW F.vy n;have hf:=(xz F hn).ok v hv;have hg:=(xz G hn).ok v hv;have TF:=F.t n hn;have TG:=G.t n hn;have TH:=H.t n hn;have LF:=jd F.vx.p TF.len TF.rows (by omega) (by omega) hv;have LG:=jd F.vx.p TG.len TG.rows (by omega) (by omega) hv;have LH:=jd F.vx.p TH.len TH.rows (by omega) (by omega) hv;refine((xz H hn).ok v hv).ext (qB aM hf.len hg.len) fun j hj=>?_;refine(lin_at LH hj).trans (Cg.symm ((qL hf.len hg.len hj).trans ((Cg.sub (lin_at LF hj) (.mul (.refl _ _) (lin_at LG hj))).trans (Cg.symm ?_))));rw[sumF_at (by rw[F.fl]; exact hn)];have key:∀m,m≤dc x n→Cg x.P (dot (nth v) (smT x.P k f g n) m j) (dot (nth v) (f.getD n []) m j - -k*dot (nth v) (g.getD n []) m j):=by
  intro m;induction m with
  |zero=> intro _; exact⟨0,by simp[dot,sumI]⟩
  |succ m ih=>
   intro hm;have ih:=ih (by omega);have hrow:=smT_row (p:=x.P) (k:=k) (f:=f) (g:=g) (n:=n) (i:=m) (by rw[TF.len]; omega);have c:=qL (p:=x.P) (k:= -k) (TF.rows _ (zx (show m < (f.getD n []).length by rw[TF.len]; omega))).len (TG.rows _ (zx (show m < (g.getD n []).length by rw[TG.len]; omega))).len hj;rw[←hrow]at c;have e:∀T:L2,dot (nth v) T (m+1) j=dot (nth v) T m j+nth v m*nth (qi T m) j:=fun T=> rfl;rw[e,e,e];obtain⟨a,ha⟩:=ih;obtain⟨b,hb⟩:=c;exact⟨a+nth v m*b,by grind⟩
 rw[hv.len];exact key _ (wE _)
theorem F276_two{f g:T3s}{q:T3s→Option Bool}{b c:Bool}(h:q f=some b)(k:q g=some c):F276 [f,g] q=some (b || c):=by
 unfold F276 F307;have e0:((([f,g]:List T3s).length:Nat):Int)=2:=rfl;have hB:jH [f,g] q 0 ()=some (if b=true then .inr (.inr 0)else .inl ()):=by
  unfold jH;rw[show getI [f,g] 0=some f from rfl,ob,h,ob];cases b <;> rfl
 have hC:jH [f,g] q 1 ()=some (if c=true then .inr (.inr 1)else .inl ()):=by
  unfold jH;rw[show getI [f,g] 1=some g from rfl,ob,k,ob];cases c <;> rfl
 rw[e0,loop2 (D:=F307_1_D [f,g] q) (fun i=> rfl) hB hC];cases b <;> cases c <;> rfl
theorem fam_two{x y:qa}{f g:T3s}(hx:qJ x)(hy:qJ y)(hf:zS f)(hg:zS g):∃c,F270 x y [f,g]=some c∧F274 x y [f,g]=some c∧(c=0→Fam x y f∧Fam x y g):=by
 obtain⟨c,c1,c2,c3⟩:=pair_same hx hy;unfold F270 F274;rw[c1,c2,ob,ob];by_cases h0:c=0
 case neg=> rw[if_neg h0,if_neg h0]; exact⟨_,rfl,rfl,fun q=> absurd q h0⟩
 obtain⟨vx,vy,hp,hl⟩:=c3 h0;subst h0;rw[if_pos rfl,if_pos rfl];obtain⟨b,d1,d2,d3⟩:=(F303_tells hx hy hf vx vy hp hl).same (F313_tells hx hy hf vx vy hp hl);obtain⟨b',d4,d5,d6⟩:=(F303_tells hx hy hg vx vy hp hl).same (F313_tells hx hy hg vx vy hp hl);have e0:((([f,g]:List T3s).length:Nat):Int)=2:=rfl;have hB:xQ x y [f,g] 0 ()=some (if b=true then .inl ()else .inr (.inr 2)):=by
  unfold xQ;rw[show getI [f,g] 0=some f from rfl,ob,d1,ob];cases b <;> rfl
 have hC:xQ x y [f,g] 1 ()=some (if b'=true then .inl ()else .inr (.inr 2)):=by
  unfold xQ;rw[show getI [f,g] 1=some g from rfl,ob,d4,ob];cases b' <;> rfl
 have tR:F306 f x y=some (!b):=by unfold F306; rw[d2,ob]
 have lz:F306 g x y=some (!b'):=by unfold F306; rw[d5,ob]
 rw[e0,loop2 (D:=F270_1_D x y [f,g]) (fun i=> rfl) hB hC,F276_two (q:=fun z=> F306 z x y) tR lz,ob,ob];cases b with
 |false=> cases b' <;> exact⟨2,rfl,rfl,fun q=> by cases q⟩
 |true=> cases b' with
  |false=> exact⟨2,rfl,rfl,fun q=> by cases q⟩
  |true=> exact⟨0,rfl,rfl,fun _=>⟨(d3.1 rfl).fam hx hy hf vx vy hp hl,(d6.1 rfl).fam hx hy hg vx vy hp hl⟩⟩
theorem chain_two{x y:qa}{f g:T3s}(hx:qJ x)(hy:qJ y)(hf:zS f)(hg:zS g):∃c,F242 x y [f,g]=some c∧F244 x y [f,g]=some c∧(c=0→Fam x y f∧Fam x y g∧ChainP x y f∧ChainP x y g):=by
 obtain⟨c,c1,c2,c3⟩:=fam_two hx hy hf hg;unfold F242 F244;rw[c1,c2,ob,ob];by_cases h0:c=0
 case neg=> rw[if_neg h0,if_neg h0]; exact⟨_,rfl,rfl,fun q=> absurd q h0⟩
 obtain⟨F,G⟩:=c3 h0;subst h0;rw[if_pos rfl,if_pos rfl];obtain⟨b,d1,d2,d3⟩:=(F271_tells F).same (F308_tells F);obtain⟨b',d4,d5,d6⟩:=(F271_tells G).same (F308_tells G);have e0:((([f,g]:List T3s).length:Nat):Int)=2:=rfl;have hB:xR x y [f,g] 0 ()=some (if b=true then .inl ()else .inr (.inr 5)):=by
  unfold xR;rw[show getI [f,g] 0=some f from rfl,ob,d1,ob];cases b <;> rfl
 have hC:xR x y [f,g] 1 ()=some (if b'=true then .inl ()else .inr (.inr 5)):=by
  unfold xR;rw[show getI [f,g] 1=some g from rfl,ob,d4,ob];cases b' <;> rfl
 have mn:F275 f x y=some (!b):=by unfold F275; rw[d2,ob]
 have ma:F275 g x y=some (!b'):=by unfold F275; rw[d5,ob]
 rw[e0,loop2 (D:=F242_1_D x y [f,g]) (fun i=> rfl) hB hC,F276_two (q:=fun z=> F275 z x y) mn ma,ob,ob];cases b with
 |false=> cases b' <;> exact⟨5,rfl,rfl,fun q=> by cases q⟩
 |true=> cases b' with
  |false=> exact⟨5,rfl,rfl,fun q=> by cases q⟩
  |true=> exact⟨0,rfl,rfl,fun _=>⟨F,G,d3.1 rfl,d6.1 rfl⟩⟩
theorem all_pair{n:Nat}{R:Type}{bad:R}{B:Int→Unit→Option (Unit⊕(Unit⊕R))}{D:Int→Unit→Option (Unit⊕R)}(P:Nat→Prop)(hn:n≤1000000)(hB:∀i:Nat,i < n→∃b:Bool,B i ()=some (if b=true then .inl ()else .inr (.inr bad))∧(b=true↔P i))(hD:∀i,D i ()=some (.inl ())):
  ∃b:Bool,forR 0 (n:Int) B D ()=some (if b=true then .inl ()else .inr bad)∧(b=true↔∀i,i < n→P i):=by
 obtain⟨t,g1,g2⟩:=qy (B:=B) (D:=D) (hi:=(n:Int)) n rfl (by omega) (fun i _=>∀k,k < i→P k) (fun t=>(t= .inl ()∧∀k,k < n→P k)∨(t= .inr bad∧¬∀k,k < n→P k)) (s:=()) (fun k hk=> by omega) (by
  rintro i _ hi hI;obtain⟨b,b1,b2⟩:=hB i hi;cases b with
  |true=> left; exact⟨(),b1,fun k hk=> by
    by_cases e:k=i
    ·subst e; exact b2.1 rfl
    ·exact hI k (by omega)⟩
  |false=> right; exact⟨_,b1,.inr ⟨rfl,fun c=> by have:=b2.2 (c i hi); cases this⟩⟩) (by
  rintro _ hI;exact⟨.inl (),hD _,.inl ⟨rfl,hI⟩⟩)
 rw[g1];rcases g2 with⟨rfl,h⟩|⟨rfl,h⟩
 ·exact⟨true,rfl,⟨fun _=> h,fun _=> rfl⟩⟩
 ·exact⟨false,rfl,⟨fun c=>(by cases c),fun c=> absurd c h⟩⟩
def AreP(x y:qa)(f g:T3s):Prop:=∀n,n < x.D.length→∀K B,F98 x (n:Int)=some K→F251 y (n:Int)=some B→∀z∈K,Sp x.P (dc y n) B (subv x.P (im x y f n z) (im x y g n z) 1)
theorem are_full{x y:qa}{f g:T3s}(hx:qJ x)(hy:qJ y)(hf:zS f)(hg:zS g):∃b c,F461 x y f g=some ⟨b,c⟩∧F462 x y f g=some ⟨b,c⟩∧F244 x y [f,g]=some c∧(c=0→Fam x y f∧Fam x y g∧ChainP x y f∧ChainP x y g∧(b=true↔AreP x y f g)):=by
 obtain⟨c,c1,c2,c3⟩:=chain_two hx hy hf hg;unfold F461 F462;rw[c1,c2,ob,ob];by_cases h0:c=0
 case neg=> rw[if_neg h0,if_neg h0]; exact⟨_,_,rfl,rfl,rfl,fun q=> absurd q h0⟩
 obtain⟨F,G,CF,CG⟩:=c3 h0;subst h0;rw[if_pos rfl,if_pos rfl];have hpr:=F.vx.p.range;have cX:1 < x.P:=by omega
 have aM:0 < x.P:=by omega
 have hdl:=F.vx.dl;have H:=sum_fam (k:= -1) F G;rw[F490_eq F.vx.p (by decide) (by omega) (fun n=>⟨by have:=qW F.vx n; omega,by have:=qW F.vy n; omega⟩) F.fs G.fs,ob,F.fl];have one:∀n,n < x.D.length→∃b:Bool,F461_1_B x y f g (n:Int) ()=some (if b=true then .inl ()else .inr (.inr ⟨false,0⟩))∧F462_1_B x y f g (sumF x.P f g (-1)) (n:Int) ()=some (if b=true then .inl ()else .inr (.inr ⟨false,0⟩))∧(b=true↔∀K B,F98 x (n:Int)=some K→F251 y (n:Int)=some B→∀z∈K,Sp x.P (dc y n) B (subv x.P (im x y f n z) (im x y g n z) 1)):=fun n hn=> by
  have hdx:=qW F.vx n;have hdy:=qW F.vy n;obtain⟨K,B,r,k1,k2,k3,b1,b2,b3,r1,r2,⟨E,e1,rfl⟩⟩:=rank_run H hn;have hkl:=jk k3;obtain⟨m1,m2⟩:=ech_same F.vx.p b3 ((xz H hn).rows k3.ok) e1;have inner:∃b:Bool,forR 0 (K.length:Int) (F461_2_B x y f g (n:Int) K) (F461_2_D x y f g (n:Int) K) ()=some (if b=true then .inl ()else .inr ⟨false,0⟩)∧(b=true↔∀i (h:i < K.length),Sp x.P (dc y n) B (subv x.P (im x y f n K[i]) (im x y g n K[i]) 1)):=by
   obtain⟨b,q1,q2⟩:=all_pair (n:=K.length) (bad:=(⟨false,0⟩:T2 Bool Int)) (B:=F461_2_B x y f g (n:Int) K) (D:=F461_2_D x y f g (n:Int) K) (fun i=>∀h:i < K.length,Sp x.P (dc y n) B (subv x.P (im x y f n K[i]) (im x y g n K[i]) 1)) (by omega) (fun i hi=> by
    have hz:=k3.ok _ (wC hi);have vf:=(xz F hn).ok _ hz;have vg:=(xz G hn).ok _ hz;have vd:=qB (p:=x.P) aM vf.len vg.len (k:=1);have e:subv x.P (im x y f n K[i]) (im x y g n K[i]) (-(x.P - 1))=subv x.P (im x y f n K[i]) (im x y g n K[i]) 1:=
     (qB aM vf.len vg.len).ext vd fun j hj=>(qL vf.len vg.len hj).trans (Cg.trans ⟨nth (im x y g n K[i]) j,by grind⟩ (qL vf.len vg.len hj).symm)
    have hr:=jQ aM b3.ok vd;obtain⟨b,t1,t2⟩:=F92_tells (l:=rest x.P B (subv x.P (im x y f n K[i]) (im x y g n K[i]) 1)) (by rw[hr.len]; omega);refine⟨b,?_,t2.trans ⟨fun h _=>(jP aM b3 vd).1 (hr.ext (zj aM _) fun j hj=> by rw[zh,qP (by rw[hr.len]; exact hj),h _ (wC _)]; exact .refl _ _),fun h v hv=>?_⟩⟩
    ·unfold F461_2_B
     rw[qk hi,ob,(im_run F hn hz).2,ob,(im_run G hn hz).2,ob,ql (by omega) (by omega),ob,F173_eq hpr (by omega) vf vg (by omega),ob,b2,ob,e,F205_eq F.vx.p b3 vd (by omega),ob,t1,ob];cases b <;> rfl
    ·rw[(jP aM b3 vd).2 (h hi)]at hv
     exact(List.mem_replicate.1 hv).2) (fun i=> rfl)
   exact⟨b,q1,q2.trans ⟨fun h i hi=> h i hi hi,fun h i _ hi=> h i hi⟩⟩
  obtain⟨b,q1,q2⟩:=inner;have all:b=true↔∀z∈K,Sp x.P (dc y n) B (subv x.P (im x y f n z) (im x y g n z) 1):=q2.trans ⟨fun h z hz=> by
   obtain⟨i,hi,rfl⟩:=wK hz;exact h i hi,fun h i hi=> h _ (wC hi)⟩
  refine⟨b,?_,?_,all.trans ⟨fun h K' B' h1 h2=>?_,fun h=> h K B k1 b1⟩⟩
  ·unfold F461_1_B
   rw[k2,ob,q1,ob];cases b <;> rfl
  ·have mc:(∀r∈K.map (im x y (sumF x.P f g (-1)) n),Sp x.P (dc y n) B r)↔∀z∈K,Sp x.P (dc y n) B (subv x.P (im x y f n z) (im x y g n z) 1):=by
    have e:∀z∈K,im x y (sumF x.P f g (-1)) n z=subv x.P (im x y f n z) (im x y g n z) 1:=fun z hz=> im_sum F G hn (k3.ok z hz);refine⟨fun h z hz=>?_,fun h r hr=>?_⟩
    ·rw[←e z hz]; exact h _ (List.mem_map_of_mem hz)
    ·obtain⟨z,hz,rfl⟩:=wQ.1 hr
     rw[e z hz]; exact h z hz
   have fin:=m2.trans (mc.trans all.symm);unfold F462_1_B;rw[r1,ob];cases b with
   |true=> have:=fin.2 rfl; rw[if_neg (by omega)]; rfl
   |false=> have:¬E.length≤B.length:=fun c=> absurd (fin.1 c) Bool.false_ne_true; rw[if_pos (by omega)]; rfl
  ·rw[k1]at h1; cases h1
   rw[b1]at h2; cases h2;exact h
 obtain⟨b,q1,q2⟩:=all_pair (n:=x.D.length) (bad:=(⟨false,0⟩:T2 Bool Int)) (B:=F461_1_B x y f g) (D:=F461_1_D x y f g) (fun n=>∀K B,F98 x (n:Int)=some K→F251 y (n:Int)=some B→∀z∈K,Sp x.P (dc y n) B (subv x.P (im x y f n z) (im x y g n z) 1)) (by omega) (fun i hi=>(one i hi).imp fun b h=>⟨h.1,h.2.2⟩) (fun i=> rfl);obtain⟨b',q3,q4⟩:=all_pair (n:=x.D.length) (bad:=(⟨false,0⟩:T2 Bool Int)) (B:=F462_1_B x y f g (sumF x.P f g (-1))) (D:=F462_1_D x y f g (sumF x.P f g (-1))) (fun n=>∀K B,F98 x (n:Int)=some K→F251 y (n:Int)=some B→∀z∈K,Sp x.P (dc y n) B (subv x.P (im x y f n z) (im x y g n z) 1)) (by omega) (fun i hi=>(one i hi).imp fun b h=>⟨h.2.1,h.2.2⟩) (fun i=> rfl);have eb:b'=b:=by
  have:=q2.trans q4.symm;cases b <;> cases b' <;> simp_all
 subst eb;rw[q1,q3,ob];cases b' with
 |true=> exact⟨true,0,rfl,rfl,rfl,fun _=>⟨F,G,CF,CG,q2⟩⟩
 |false=> exact⟨false,0,rfl,rfl,rfl,fun _=>⟨F,G,CF,CG,q2⟩⟩
def FamH(x y:qa)(f:T3s):Prop:=(f.length:Int)=x.D.length∧∀n,n < f.length→jg x.P (dc x n) (dc y (n+1)) (f.getD n [])
theorem F303_one{x y:qa}{f:T3s}(hx:qJ x)(hy:qJ y)(hf:zS f)(vx:qS x)(vy:qS y)(hp:y.P=x.P)(hl:y.D.length=x.D.length):zZ (F303 x y f 1) (FamH x y f):=by
 have hr:=vx.p.range;have hdl:=vx.dl;unfold F303 FamH;by_cases c1:(f.length:Int)=x.D.length
 case neg=> rw[if_neg c1]; exact .of_false rfl fun k=> c1 k.1
 rw[if_pos c1];obtain⟨b,h1,h2⟩:=all_for (B:=xP x y f 1) (D:=F303_1_D x y f 1) (fun n=> jg x.P (dc x n) (dc y (n+1)) (f.getD n [])) (show f.length≤1000000 by omega) (fun n hn=> by
  have hmem:=qV hn [];have hfr:=hf.r _ hmem;have hdy:=qW vy (n+1);unfold xP;rw[qh hn [],ob,qh (show n < x.D.length by omega) 0,ob,xn vx (show n < x.D.length by omega)];refine zG.iff (P:=((f.getD n []).length:Int)=dc x n∧∀i,i < (f.getD n []).length→RowOK x.P (dc y (n+1)) ((f.getD n []).getD i [])) (zG.ite fun q1=>?_) ?_
  ·obtain⟨t,t1,t2⟩:=all_W (n:=(f.getD n []).length) (S:=jJ x y f 1 (n:Int)) (fun i=> RowOK x.P (dc y (n+1)) ((f.getD n []).getD i [])) (fun i hi=> by
    have hrow:=hfr.2 _ (qV hi []);unfold jJ;rw[qh hn [],ob,if_pos (by omega),qh hi [],ob,ql (by omega) (by omega),ob,show(n:Int)+1=((n+1:Nat):Int) by omega,F99_dc hy vy (by omega),ob];by_cases c2:(((f.getD n []).getD i []).length:Int)=dc y (n+1)
    ·rw[if_pos c2]
     obtain⟨s,s1,s2⟩:=all_W (n:=((f.getD n []).getD i []).length) (S:=jI x y f 1 (n:Int) (i:Int)) (fun j=> 0≤nth ((f.getD n []).getD i []) j∧nth ((f.getD n []).getD i []) j < x.P) (fun j hj=> by
      unfold jI;rw[qh hn [],ob,qh hi [],ob,if_pos (by omega),zk hj,ob,ql (by omega) (by omega),ob,F54_eq,ob,ql (by omega) (by omega),ob];exact⟨decide (0≤nth ((f.getD n []).getD i []) j∧nth ((f.getD n []).getD i []) j≤x.P - 1),by split <;> rename_i q <;> simp at q ⊢ <;> simp[q],by simp; omega⟩) (by
      unfold jI;rw[qh hn [],ob,qh hi [],ob,if_neg (by omega)])
     rw[s1,ob];cases s with
     |true=>
      simp only[if_true];rw[ql (by omega) (by omega),ob];refine⟨true,rfl,fun _=>⟨c2,fun y hy=>?_⟩,fun _=> rfl⟩;obtain⟨j,hj,rfl⟩:=wK hy;have:=s2.1 rfl j hj
      rwa[qP hj]at this
     |false=>
      refine⟨false,rfl,fun c=> by(cases c),fun q=>?_⟩;exact s2.2 fun j hj=> by rw[qP hj]; exact q.2 _ (wC hj)
    ·rw[if_neg c2]
     exact⟨false,rfl,by simp only[wP,false_iff]; exact fun q=> c2 q.1⟩) (by
    unfold jJ;rw[qh hn [],ob,if_neg (by omega)])
   rw[t1,ob];cases t with
   |true=> exact⟨true,rfl,by simp only[true_iff]; exact t2.1 rfl⟩
   |false=> exact⟨false,rfl,by simp only[wP,false_iff]; exact fun q=> by have:=t2.2 q; cases this⟩
  ·unfold jg
   refine and_congr_right fun _=>⟨fun q r hr=>?_,fun q i hi=> q _ (qV hi [])⟩;obtain⟨i,hi,rfl⟩:=wK hr;have:=q i hi
   rwa[show(f.getD n []).getD i []=(f.getD n [])[i] by rw[gD,gB hi]; rfl]at this) fun i=> rfl
 rw[h1,ob];cases b with
 |true=> exact .of_true rfl ⟨c1,h2.1 rfl⟩
 |false=> exact .of_false rfl fun k=> by have:=h2.2 k.2; cases this
theorem F313_one{x y:qa}{f:T3s}(hx:qJ x)(hy:qJ y)(hf:zS f)(vx:qS x)(vy:qS y)(hp:y.P=x.P)(hl:y.D.length=x.D.length):zZ (F313 x y f 1) (FamH x y f):=by
 have hr:=vx.p.range;have hdl:=vx.dl;unfold F313 FamH;by_cases c1:(f.length:Int)=x.D.length
 case neg=> rw[if_neg c1]; exact .of_false rfl fun k=> c1 k.1
 rw[if_pos c1];obtain⟨b,h1,h2⟩:=all_for (B:=xO x y f 1) (D:=F313_1_D x y f 1) (fun n=> jg x.P (dc x n) (dc y (n+1)) (f.getD n [])) (show f.length≤1000000 by omega) (fun n hn=> by
  have hmem:=qV hn [];have hfr:=hf.r _ hmem;have hdy:=qW vy (n+1);unfold xO;rw[qh hn [],ob,qh (show n < x.D.length by omega) 0,ob,xn vx (show n < x.D.length by omega)];refine zG.iff (P:=((f.getD n []).length:Int)=dc x n∧(∀r∈f.getD n [],RowOK x.P (dc y (n+1)) r)∧True) (zG.ite fun q1=>?_) (by unfold jg; simp);rw[ql (by omega) (by omega),ob,show(n:Int)+1=((n+1:Nat):Int) by omega,F102_dc hy vy (by omega),ob];exact(F90_tells hr (by omega) (fun r hr=> by have:=hfr.2 r hr; omega)).then_L fun _=> .yes) fun i=> rfl
 rw[h1,ob];cases b with
 |true=> exact .of_true rfl ⟨c1,h2.1 rfl⟩
 |false=> exact .of_false rfl fun k=> by have:=h2.2 k.2; cases this
structure HomS (x y:qa) (h:T3s):Prop where
 fl:h.length=x.D.length
 t:∀n,n < x.D.length→TabN x.P (dc x n) (dc y (n+1)) (h.getD n [])
theorem FamH.homs{x y:qa}{h:T3s}(k:FamH x y h):HomS x y h:=⟨by have:=k.1; omega,fun n hn=> .of (k.2 n (by have:=k.1; omega))⟩
def dh(x y:qa)(h:T3s)(n i:Nat):L1:=if n+1 < x.D.length then lin x.P (dc y n) (qi (h.getD n []) i) (y.M.getD n [])else zv (dc y n)
def hd(x y:qa)(h:T3s)(n i:Nat):L1:=lin x.P (dc y n) (qi (x.M.getD (n - 1) []) i) (h.getD (n - 1) [])
def hrow(x y:qa)(h:T3s)(n i:Nat):L1:=if n=0 then dh x y h n i else subv x.P (dh x y h n i) (hd x y h n i) (-1)
def HomP(x y:qa)(f g h:T3s):Prop:=∀n,n < x.D.length→∀i,i < dc x n→subv x.P (qi (f.getD n []) i) (qi (g.getD n []) i) 1=hrow x y h n i
theorem add_loop{p:Int}{w:Nat}(hp:2≤p∧p≤7){v u:L1}(hv:qD p w v)(hu:qD p w u)(hw:w≤1000){S:L1×Int→Option ((L1×Int)⊕L1)}
  (hS:∀s j,S (s,j)=if j < ((s.length:Nat):Int)then(getI s j).bind fun a=>(getI u j).bind fun b=>(chk (a+b)).bind fun c=>(remI c p).bind fun d=>(setI s j d).bind fun l=>(chk (j+1)).bind fun k=> some (.inl (l,k))else some (.inr s)):qA S (v,0)=some (subv p v u (-1)):=by
 have hvl:=hv.len;have hul:=hu.len;have aM:0 < p:=by omega
 rw[idx_loopW (fun i a=>(a - -1*nth u i)% p) (fun i hi s h1 h2=> by
  have e:s[i]? =some v[i]:=by rw[h2 i,if_neg (by omega)]; simp[hi]
  obtain⟨hi',e'⟩:=gM.1 e;have hr:=hv.rng i (by omega);rw[qP hi]at hr;have hs:=hu.rng i (by omega);rw[hS,if_pos (by omega),qk hi',ob,e',zk (by omega),ob,ql (by omega) (by omega),ob,jR (by omega),ob,zg hi',ob,ql (by omega) (by omega),ob,Int.tmod_eq_emod_of_nonneg (by omega),show v[i] - -1*nth u i=v[i]+nth u i by omega]) (fun s hs=> by
  rw[hS,if_neg (by omega)])]
 congr 1
 have hsl:=(qB (p:=p) aM hvl hul (k:= -1)).len;refine yO (by rw[hsl]; simp[hvl]) fun i h1 h2=>?_;have hi:i < w:=by omega
 have:=zE (p:=p) (k:= -1) hvl hul hi;rw[qP h2,qP (show i < v.length by omega)]at this;rw[this]; simp
theorem dh_run{x y:qa}{f h:T3s}(F:Fam x y f)(H:HomS x y h){n:Nat}(hn:n < x.D.length){i:Nat}(hi:i < dc x n):qD x.P (dc y n) (dh x y h n i)∧(n+1 < x.D.length→F273 y ((n+1:Nat):Int) (qi (h.getD n []) i)=some (dh x y h n i)∧F91 y ((n+1:Nat):Int) (qi (h.getD n []) i)=some (dh x y h n i)):=by
 have aM:0 < x.P:=by have:=F.vx.p.range; omega
 have hl:=F.l;unfold dh;by_cases c:n+1 < x.D.length
 ·rw[if_pos c]
  have v2:=row_ok (H.t n hn) hi;obtain⟨b1,b2,b3,b4⟩:=df_eq F.sy F.vy (n:=n+1) (by omega) (v:=qi (h.getD n []) i) (by rw[F.pp]; exact v2);have e:dfF y (n+1) (qi (h.getD n []) i)=lin x.P (dc y n) (qi (h.getD n []) i) (y.M.getD n []):=by
   unfold dfF;rw[if_neg (by omega),vQ,F.pp]
  rw[e]at b1 b2 b3;have b3:=b3 (by omega);rw[F.pp,vQ]at b3;exact⟨b3,fun _=>⟨b1,b2⟩⟩
 ·rw[if_neg c]
  exact⟨zj aM _,fun k=> absurd k c⟩
theorem hd_run{x y:qa}{f h:T3s}(F:Fam x y f)(H:HomS x y h){n:Nat}(hn:n+1 < x.D.length){i:Nat}(hi:i < dc x (n+1)):qD x.P (dc y (n+1)) (hd x y h (n+1) i)∧F304 x y h (n:Int) 1 (qi (x.M.getD n []) i)=some (hd x y h (n+1) i)∧F309 x y h 1 (n:Int) (qi (x.M.getD n []) i)=some (hd x y h (n+1) i):=by
 have hl:=F.l;have hfl:=H.fl;have hdl:=F.vx.dl;have hdx:=qW F.vx n;have hdy:=qW F.vy (n+1);have v1:=row_ok (js F.vx hn) hi;obtain⟨a1,a2,a3⟩:=linT F.vx.p (H.t n (by omega)) (by omega) (by omega) v1;unfold hd;rw[vQ];refine⟨a3,?_,?_⟩
 ·unfold F304
  rw[qh (show n < h.length by omega) [],ob,ql (by omega) (by omega),ob,show(n:Int)+1=((n+1:Nat):Int) by omega,F99_dc F.sy F.vy (by omega),ob,a1,ob]
 ·unfold F309
  rw[ji F.sx.d,ob,F56_eq,ob,if_pos (by simp; omega),ql (by omega) (by omega),ob,show(n:Int)+1=((n+1:Nat):Int) by omega,F102_dc F.sy F.vy (by omega),ob,qh (show n < h.length by omega) [],ob,a2,ob]
theorem hrow_ok{x y:qa}{f h:T3s}(F:Fam x y f)(H:HomS x y h){n:Nat}(hn:n < x.D.length){i:Nat}(hi:i < dc x n):qD x.P (dc y n) (hrow x y h n i):=by
 have aM:0 < x.P:=by have:=F.vx.p.range; omega
 have a:=(dh_run F H hn hi).1;unfold hrow;by_cases c:n=0
 ·rw[if_pos c]; exact a
 ·rw[if_neg c]
  obtain⟨m,rfl⟩:∃m,n=m+1:=⟨n - 1,by omega⟩;exact qB aM a.len (hd_run F H hn hi).1.len
theorem ishom_impl{x y:qa}{f g h:T3s}(F:Fam x y f)(G:Fam x y g)(H:HomS x y h){n:Nat}(hn:n < x.D.length){i:Nat}(hi:i < dc x n):
  ∃b:Bool,F458_2_B x y f g h (n:Int) (zJ (dc x n)) (i:Int) ()=some (if b=true then .inl ()else .inr (.inr ⟨false,0⟩))∧(b=true↔subv x.P (qi (f.getD n []) i) (qi (g.getD n []) i) 1=hrow x y h n i):=by
 have hpr:=F.vx.p.range;have cX:1 < x.P:=by omega
 have aM:0 < x.P:=by omega
 have hl:=F.l;have hdl:=F.vx.dl;have hfl:=F.fl;have hgl:=G.fl;have hhl:=H.fl;have hdx:=qW F.vx n;have hdy:=qW F.vy n;have vf:=row_ok (F.t n hn) hi;have vg:=row_ok (G.t n hn) hi;have e:subv x.P (qi (f.getD n []) i) (qi (g.getD n []) i) (-(x.P - 1))=subv x.P (qi (f.getD n []) i) (qi (g.getD n []) i) 1:=
  (qB aM vf.len vg.len).ext (qB aM vf.len vg.len) fun j hj=>(qL vf.len vg.len hj).trans (Cg.trans ⟨nth (qi (g.getD n []) i) j,by grind⟩ (qL vf.len vg.len hj).symm)
 have vd:=qB (p:=x.P) aM vf.len vg.len (k:=1);have TF:=F.t n hn;have TG:=G.t n hn;have TH:=H.t n hn;have f1:getI f (n:Int)=some (f.getD n []):=qh (by omega) [];have f2:getI (f.getD n []) (i:Int)=some (qi (f.getD n []) i):=by rw[qk (by rw[TF.len]; exact hi),qC (by rw[TF.len]; exact hi)]
 have g1:getI g (n:Int)=some (g.getD n []):=qh (by omega) [];have g2:getI (g.getD n []) (i:Int)=some (qi (g.getD n []) i):=by rw[qk (by rw[TG.len]; exact hi),qC (by rw[TG.len]; exact hi)]
 have h1:getI h (n:Int)=some (h.getD n []):=qh (by omega) [];have h2:getI (h.getD n []) (i:Int)=some (qi (h.getD n []) i):=by rw[qk (by rw[TH.len]; exact hi),qC (by rw[TH.len]; exact hi)]
 have hu:getI (zJ (dc x n)) (i:Int)=some (zH (dc x n) i):=by rw[qk (by rw[jv]; exact hi),units_at]
 have hz:(List.replicate (dc y n) 0:L1)=zv (dc y n):=rfl;obtain⟨d1,d2⟩:=dh_run F H hn hi;obtain⟨b,t1,t2⟩:=F165_tells (a:=subv x.P (qi (f.getD n []) i) (qi (g.getD n []) i) 1) (b:=hrow x y h n i) (by rw[vd.len]; omega);refine⟨b,?_,t2⟩;unfold F458_2_B;rw[hu,ob,F102_dc F.sy F.vy (by omega),ob,mkL_ok (dc y n) rfl (by omega) (by omega),ob,ji F.sy.d,ob,hz];by_cases c:n+1 < x.D.length
 ·rw[if_pos (by omega),ql (by omega) (by omega),ob,h1,ob,h2,ob,show(n:Int)+1=((n+1:Nat):Int) by omega,(d2 c).2,ob]
  by_cases c0:n=0
  ·subst c0
   rw[if_neg (by omega),f1,ob,f2,ob,g1,ob,g2,ob,ql (by omega) (by omega),ob,F173_eq hpr (by omega) vf vg (by omega),ob,e];have eh:hrow x y h 0 i=dh x y h 0 i:=by unfold hrow; rw[if_pos rfl]
   rw[eh]at t1;rw[t1,ob];cases b <;> rfl
  ·obtain⟨m,rfl⟩:∃m,n=m+1:=⟨n - 1,by omega⟩
   obtain⟨k1,k2,k3⟩:=hd_run F H hn hi;obtain⟨-,u2, -, -⟩:=df_eq F.sx F.vx hn (zT cX hi);rw[xI F.sx F.vx hn hi]at u2;rw[if_pos (by omega),ql (by omega) (by omega),ob,u2,ob,show((m+1:Nat):Int) - 1=(m:Int) by omega,k3,ob,F173_eq hpr (by omega) d1 k1 (by omega),ob,f1,ob,f2,ob,g1,ob,g2,ob,ql (by omega) (by omega),ob,F173_eq hpr (by omega) vf vg (by omega),ob,e];have eh:hrow x y h (m+1) i=subv x.P (dh x y h (m+1) i) (hd x y h (m+1) i) (-1):=by unfold hrow; rw[if_neg (by omega)]
   rw[eh]at t1;rw[t1,ob];cases b <;> rfl
 ·have ed:dh x y h n i=zv (dc y n):=by unfold dh; rw[if_neg c]
  rw[if_neg (by omega)];by_cases c0:n=0
  ·subst c0
   rw[if_neg (by omega),f1,ob,f2,ob,g1,ob,g2,ob,ql (by omega) (by omega),ob,F173_eq hpr (by omega) vf vg (by omega),ob,e];have eh:hrow x y h 0 i=zv (dc y 0):=by unfold hrow; rw[if_pos rfl,ed]
   rw[eh]at t1;rw[t1,ob];cases b <;> rfl
  ·obtain⟨m,rfl⟩:∃m,n=m+1:=⟨n - 1,by omega⟩
   obtain⟨k1,k2,k3⟩:=hd_run F H hn hi;obtain⟨-,u2, -, -⟩:=df_eq F.sx F.vx hn (zT cX hi);rw[xI F.sx F.vx hn hi]at u2;rw[if_pos (by omega),ql (by omega) (by omega),ob,u2,ob,show((m+1:Nat):Int) - 1=(m:Int) by omega,k3,ob,F173_eq hpr (by omega) (zj aM _) k1 (by omega),ob,f1,ob,f2,ob,g1,ob,g2,ob,ql (by omega) (by omega),ob,F173_eq hpr (by omega) vf vg (by omega),ob,e];have eh:hrow x y h (m+1) i=subv x.P (zv (dc y (m+1))) (hd x y h (m+1) i) (-1):=by unfold hrow; rw[if_neg (by omega),ed]
   rw[eh]at t1;rw[t1,ob];cases b <;> rfl
theorem all_Wpair{n:Nat}{R:Type}{bad:R}{S:Int→Option (Int⊕(Unit⊕R))}(P:Nat→Prop)(hS:∀i:Nat,i < n→∃b:Bool,S i=some (if b=true then .inl ((i:Int)+1)else .inr (.inr bad))∧(b=true↔P i))(hE:S n=some (.inr (.inl ()))):
  ∃b:Bool,qA S 0=some (if b=true then .inl ()else .inr bad)∧(b=true↔∀i,i < n→P i):=by
 obtain⟨t,g1,g2⟩:=qQ (S:=S) (fun s=>(n - s).toNat) (fun s=>∃i:Nat,s=i∧i≤n∧∀k,k < i→P k) (fun t=>(t= .inl ()∧∀k,k < n→P k)∨(t= .inr bad∧¬∀k,k < n→P k)) (s:=0) ⟨0,rfl,vD _,fun k hk=> by omega⟩ (by
  rintro _ ⟨i,rfl,hi,hI⟩;by_cases c:i < n
  ·obtain⟨b,b1,b2⟩:=hS i c
   cases b with
   |true=>
    left;refine⟨_,b1,⟨i+1,by simp,by omega,fun k hk=>?_⟩,by omega⟩;by_cases e:k=i
    ·subst e; exact b2.1 rfl
    ·exact hI k (by omega)
   |false=> right; exact⟨_,b1,.inr ⟨rfl,fun q=> by have:=b2.2 (q i c); cases this⟩⟩
  ·have:i=n:=by omega
   subst this;right; exact⟨_,hE,.inl ⟨rfl,hI⟩⟩)
 rw[g1];rcases g2 with⟨rfl,h⟩|⟨rfl,h⟩
 ·exact⟨true,rfl,⟨fun _=> h,fun _=> rfl⟩⟩
 ·exact⟨false,rfl,⟨fun c=>(by cases c),fun c=> absurd c h⟩⟩
theorem ishom_spec{x y:qa}{f g h:T3s}(F:Fam x y f)(G:Fam x y g)(H:HomS x y h){n:Nat}(hn:n < x.D.length){i:Nat}(hi:i < dc x n):
  ∃b:Bool,xN x y f g h (sumF x.P f g (-1)) (n:Int) (i:Int)=some (if b=true then .inl ((i:Int)+1)else .inr (.inr ⟨false,0⟩))∧(b=true↔subv x.P (qi (f.getD n []) i) (qi (g.getD n []) i) 1=hrow x y h n i):=by
 have hpr:=F.vx.p.range;have cX:1 < x.P:=by omega
 have aM:0 < x.P:=by omega
 have hl:=F.l;have hdl:=F.vx.dl;have hfl:=F.fl;have hhl:=H.fl;have hdx:=qW F.vx n;have hdy:=qW F.vy n;have D:=sum_fam (k:= -1) F G;have hDl:=D.fl;have TD:=D.t n hn;have TH:=H.t n hn;have TF:=F.t n hn;have s1:getI (sumF x.P f g (-1)) (n:Int)=some ((sumF x.P f g (-1)).getD n []):=qh (by omega) [];have er:qi ((sumF x.P f g (-1)).getD n []) i=subv x.P (qi (f.getD n []) i) (qi (g.getD n []) i) 1:=by
  rw[sumF_at (by omega),smT_row (by rw[TF.len]; exact hi)];rfl
 have s2:getI ((sumF x.P f g (-1)).getD n []) (i:Int)=some (subv x.P (qi (f.getD n []) i) (qi (g.getD n []) i) 1):=by rw[qk (by rw[TD.len]; exact hi),←qC (by rw[TD.len]; exact hi),er]
 have h1:getI h (n:Int)=some (h.getD n []):=qh (by omega) [];have h2:getI (h.getD n []) (i:Int)=some (qi (h.getD n []) i):=by rw[qk (by rw[TH.len]; exact hi),qC (by rw[TH.len]; exact hi)]
 have hz:(List.replicate (dc y n) 0:L1)=zv (dc y n):=rfl;have hok:=hrow_ok F H hn hi;obtain⟨d1,d2⟩:=dh_run F H hn hi;obtain⟨b,t1,t2⟩:=F287_tells (a:=hrow x y h n i) (b:=subv x.P (qi (f.getD n []) i) (qi (g.getD n []) i) 1) (by rw[hok.len]; omega);have hi8:i < 100:=by omega
 refine⟨b,?_,t2.trans eq_comm⟩;unfold xN;rw[qh hn 0,ob,xn F.vx hn,if_pos (by omega),F99_dc F.sy F.vy (by omega),ob,mkL_ok (dc y n) rfl (by omega) (by omega),ob,ql (by omega) (by omega),ob,hz,hfl];by_cases c:n+1 < x.D.length
 ·rw[if_pos (by omega),h1,ob,h2,ob,show(n:Int)+1=((n+1:Nat):Int) by omega,(d2 c).1,ob]
  by_cases c0:n=0
  ·subst c0
   have eh:hrow x y h 0 i=dh x y h 0 i:=by unfold hrow; rw[if_pos rfl]
   rw[eh]at t1;rw[if_neg (by omega),s1,ob,s2,ob,t1,ob,ql (by omega) (by omega),ob];cases b <;> rfl
  ·obtain⟨m,rfl⟩:∃m,n=m+1:=⟨n - 1,by omega⟩
   obtain⟨k1,k2,k3⟩:=hd_run F H hn hi;obtain⟨u2, -, -, -⟩:=df_eq F.sx F.vx hn (zT cX hi);rw[xI F.sx F.vx hn hi]at u2;have eh:hrow x y h (m+1) i=subv x.P (dh x y h (m+1) i) (hd x y h (m+1) i) (-1):=by unfold hrow; rw[if_neg (by omega)]
   rw[eh]at t1;rw[if_pos (by omega),ql (by omega) (by omega),ob,F272_eq hi (by omega),ob,u2,ob,show((m+1:Nat):Int) - 1=(m:Int) by omega,k2,ob,add_loop hpr d1 k1 (by omega) (fun s j=> rfl),ob,s1,ob,s2,ob,t1,ob,ql (by omega) (by omega),ob];cases b <;> rfl
 ·have ed:dh x y h n i=zv (dc y n):=by unfold dh; rw[if_neg c]
  rw[if_neg (by omega)];by_cases c0:n=0
  ·subst c0
   have eh:hrow x y h 0 i=zv (dc y 0):=by unfold hrow; rw[if_pos rfl,ed]
   rw[eh]at t1;rw[if_neg (by omega),s1,ob,s2,ob,t1,ob,ql (by omega) (by omega),ob];cases b <;> rfl
  ·obtain⟨m,rfl⟩:∃m,n=m+1:=⟨n - 1,by omega⟩
   obtain⟨k1,k2,k3⟩:=hd_run F H hn hi;obtain⟨u2, -, -, -⟩:=df_eq F.sx F.vx hn (zT cX hi);rw[xI F.sx F.vx hn hi]at u2;have eh:hrow x y h (m+1) i=subv x.P (zv (dc y (m+1))) (hd x y h (m+1) i) (-1):=by unfold hrow; rw[if_neg (by omega),ed]
   rw[eh]at t1;rw[if_pos (by omega),ql (by omega) (by omega),ob,F272_eq hi (by omega),ob,u2,ob,show((m+1:Nat):Int) - 1=(m:Int) by omega,k2,ob,add_loop hpr (zj aM _) k1 (by omega) (fun s j=> rfl),ob,s1,ob,s2,ob,t1,ob,ql (by omega) (by omega),ob];cases b <;> rfl
theorem hom_full{x y:qa}{f g h:T3s}(hx:qJ x)(hy:qJ y)(hf:zS f)(hg:zS g)(hh:zS h):∃b c,F458 x y f g h=some ⟨b,c⟩∧F459 x y f g h=some ⟨b,c⟩∧(c=0→F244 x y [f,g]=some 0∧Fam x y f∧Fam x y g∧HomS x y h∧(b=true→HomP x y f g h)):=by
 obtain⟨c,c1,c2,c3⟩:=fam_two hx hy hf hg;obtain⟨e,e1,e2,e3⟩:=chain_two hx hy hf hg;unfold F458 F459;rw[c1,c2,ob,ob];by_cases h0:c=0
 case neg=> rw[if_neg h0,if_neg h0]; exact⟨_,_,rfl,rfl,fun q=> absurd q h0⟩
 obtain⟨F,G⟩:=c3 h0;subst h0;rw[if_pos rfl,if_pos rfl];obtain⟨b,d1,d2,d3⟩:=(F303_one hx hy hh F.vx F.vy F.pp F.l).same (F313_one hx hy hh F.vx F.vy F.pp F.l);rw[d1,d2,ob,ob];cases b with
 |false=> exact⟨false,2,rfl,rfl,fun q=> by cases q⟩
 |true=>
  have H:=(d3.1 rfl).homs;rw[if_pos rfl,if_pos rfl,e1,e2,ob,ob];by_cases h1:e=0
  case neg=> rw[if_neg h1,if_neg h1]; exact⟨_,_,rfl,rfl,fun q=> absurd q h1⟩
  subst h1;have hdl:=F.vx.dl;rw[if_pos rfl,if_pos rfl,F490_eq F.vx.p (by decide) (by omega) (fun n=>⟨by have:=qW F.vx n; omega,by have:=qW F.vy n; omega⟩) F.fs G.fs,ob,F.fl];have one:∀n,n < x.D.length→(∃b:Bool,F458_1_B x y f g h (n:Int) ()=some (if b=true then .inl ()else .inr (.inr ⟨false,0⟩))∧(b=true↔∀i,i < dc x n→subv x.P (qi (f.getD n []) i) (qi (g.getD n []) i) 1=hrow x y h n i))∧
    (∃b:Bool,F459_1_B x y f g h (sumF x.P f g (-1)) (n:Int) ()=some (if b=true then .inl ()else .inr (.inr ⟨false,0⟩))∧(b=true↔∀i,i < dc x n→subv x.P (qi (f.getD n []) i) (qi (g.getD n []) i) 1=hrow x y h n i)):=fun n hn=> by
   have hdx:=qW F.vx n;constructor
   ·obtain⟨b,q1,q2⟩:=all_pair (n:=dc x n) (bad:=(⟨false,0⟩:T2 Bool Int)) (B:=F458_2_B x y f g h (n:Int) (zJ (dc x n))) (D:=F458_2_D x y f g h (n:Int) (zJ (dc x n))) (fun i=> subv x.P (qi (f.getD n []) i) (qi (g.getD n []) i) 1=hrow x y h n i) (by omega) (fun i hi=> ishom_impl F G H hn hi) (fun i=> rfl)
    refine⟨b,?_,q2⟩;unfold F458_1_B;rw[F102_dc F.sx F.vx (by omega),ob,F124_eq (by omega),ob,jv,q1,ob];cases b <;> rfl
   ·obtain⟨b,q1,q2⟩:=all_Wpair (n:=dc x n) (bad:=(⟨false,0⟩:T2 Bool Int)) (S:=xN x y f g h (sumF x.P f g (-1)) (n:Int)) (fun i=> subv x.P (qi (f.getD n []) i) (qi (g.getD n []) i) 1=hrow x y h n i) (fun i hi=> ishom_spec F G H hn hi) (by
     unfold xN;rw[qh hn 0,ob,xn F.vx hn,if_neg (by omega)])
    refine⟨b,?_,q2⟩;unfold F459_1_B;rw[q1,ob];cases b <;> rfl
  obtain⟨b,q1,q2⟩:=all_pair (n:=x.D.length) (bad:=(⟨false,0⟩:T2 Bool Int)) (B:=F458_1_B x y f g h) (D:=F458_1_D x y f g h) (fun n=>∀i,i < dc x n→subv x.P (qi (f.getD n []) i) (qi (g.getD n []) i) 1=hrow x y h n i) (by omega) (fun i hi=>(one i hi).1) (fun i=> rfl);obtain⟨b',q3,q4⟩:=all_pair (n:=x.D.length) (bad:=(⟨false,0⟩:T2 Bool Int)) (B:=F459_1_B x y f g h (sumF x.P f g (-1))) (D:=F459_1_D x y f g h (sumF x.P f g (-1))) (fun n=>∀i,i < dc x n→subv x.P (qi (f.getD n []) i) (qi (g.getD n []) i) 1=hrow x y h n i) (by omega) (fun i hi=>(one i hi).2) (fun i=> rfl);have eb:b'=b:=by
   have:=q2.trans q4.symm;cases b <;> cases b' <;> simp_all
  subst eb;rw[q1,q3,ob];cases b' with
  |true=> exact⟨true,0,rfl,rfl,fun _=>⟨rfl,F,G,H,fun _=> q2.1 rfl⟩⟩
  |false=> exact⟨false,0,rfl,rfl,fun _=>⟨rfl,F,G,H,fun q=> by cases q⟩⟩
theorem lin_ext{p:Int}(cX:1 < p){w w':Nat}{φ ψ:L1→L1}(hφ:Lin p w w' φ)(hψ:Lin p w w' ψ)(h:∀i,i < w→φ (zH w i)=ψ (zH w i)){v:L1}(hv:qD p w v):φ v=ψ v:=by
 have aM:0 < p:=by omega
 have hu:=(units_red cX w).ok;have key:∀v,Sp p w (zJ w) v→φ v=ψ v:=fun v hs=> by
  induction hs with
  |zero=> rw[hφ.zero aM,hψ.zero aM]
  | @sub v r k hv hr ih=>
   obtain⟨i,hi,rfl⟩:=wK hr;have hi':i < w:=by simpa[jv]using hi
   rw[hφ.sub _ _ _ (hv.ok aM hu) (hu _ hr),hψ.sub _ _ _ (hv.ok aM hu) (hu _ hr),ih,units_at,h i hi']
 exact key v (units_sp cX hv)
theorem lin_unitH{p:Int}(hp:IsP p){c w:Nat}{m:L2}(T:TabN p c w m)(hc:c≤1000)(hw:w≤1000){i:Nat}(hi:i < c):lin p w (zH c i) m=qi m i:=by
 have cX:1 < p:=by have:=hp.range; omega
 have hu:=zT cX hi;have H:=jd hp T.len T.rows hc hw hu;refine(jS H).ext (T.rows _ (zx (by rw[T.len]; exact hi))) fun j hj=>(lin_at H hj).trans ?_;rw[hu.len,show dot (nth (zH c i)) m c j=nth (qi m i) j by
  rw[←dot_unit (m:=m) (j:=j) hi];exact jK fun k _=> by simp only; rw[jY hi]]
 exact .refl _ _
theorem lin_space{p:Int}(hp:IsP p){c w:Nat}{m:L2}(T:TabN p c w m)(hc:c≤1000)(hw:w≤1000){v:L1}(hv:qD p c v):Sp p w m (lin p w v m):=by
 have aM:0 < p:=by have:=hp.range; omega
 have H:=jd hp T.len T.rows hc hw hv;refine dot_sp aM T.rows (f:=nth v) (jS H) fun j hj=>?_;rw[T.len,←hv.len];exact lin_at H hj
theorem lin_sum{p:Int}(aM:0 < p){w w':Nat}{φ ψ:L1→L1}(hφ:Lin p w w' φ)(hψ:Lin p w w' ψ):Lin p w w' fun v=> subv p (φ v) (ψ v) (-1):=by
 refine⟨fun u hu=> qB aM (hφ.ok u hu).len (hψ.ok u hu).len,fun u v k hu hv=>?_⟩;have a:=hφ.ok u hu;have b:=hψ.ok u hu;have c:=hφ.ok v hv;have d:=hψ.ok v hv;have ac:=qB (p:=p) aM a.len c.len (k:=k);have bd:=qB (p:=p) aM b.len d.len (k:=k);have ab:=qB (p:=p) aM a.len b.len (k:= -1);have cd:=qB (p:=p) aM c.len d.len (k:= -1);rw[hφ.sub u v k hu hv,hψ.sub u v k hu hv];refine(qB aM ac.len bd.len).ext (qB aM ab.len cd.len) fun j hj=>?_;refine(qL ac.len bd.len hj).trans (((Cg.sub (qL a.len c.len hj) (.mul (.refl _ _) (qL b.len d.len hj)))).trans (Cg.symm ((qL ab.len cd.len hj).trans (((Cg.sub (qL a.len b.len hj) (.mul (.refl _ _) (qL c.len d.len hj)))).trans ⟨0,by grind⟩))))
theorem cyc_zero{x:qa}(hx:qJ x)(h:qS x){m:Nat}(hn:m+1 < x.D.length){K:L2}(hK:F98 x ((m+1:Nat):Int)=some K){z:L1}(hz:z∈K):lin x.P (dc x m) z (x.M.getD m [])=zv (dc x m):=by
 have cX:1 < x.P:=by have:=h.p.range; omega
 have aM:0 < x.P:=by omega
 have hd:=hx.d;have hml:=h.ml;have T:=js h hn;have hdm:=qW h m;have hdn:=qW h (m+1);have e1:getI x.M (m:Int)=some (x.M.getD m []):=qh (by omega) [];have mj:F76 x ((m+1:Nat):Int)=some (x.M.getD m []):=by
  unfold F76;rw[ql (by omega) (by omega),ob,F54_eq,ob,if_pos (by simp; omega),ql (by omega) (by omega),ob,show((m+1:Nat):Int) - 1=(m:Int) by omega,e1,ob]
 obtain⟨K',k1,k2,k3,k4⟩:=kernel_full h.p T.rows (by omega) (by rw[T.len]; omega);unfold F98 at hK;rw[F99_dc hx h (by omega),ob,mj,ob,←T.len,k1,ob]at hK;have hK:=wA hK;subst hK;obtain⟨q1,q2⟩:=(k4 z).1 (.mem aM k3.ok hz);rw[T.len]at q1 q2;have H:=jd h.p T.len T.rows (by omega) (by omega) q1;refine(jS H).ext (zj aM _) fun j hj=>(lin_at H hj).trans ?_;rw[q1.len,zh];exact q2 j hj
theorem hom_are{x y:qa}{f g h:T3s}(F:Fam x y f)(G:Fam x y g)(H:HomS x y h)(P:HomP x y f g h):AreP x y f g:=by
 intro n hn K B hK hB z hz;have hpr:=F.vx.p.range;have cX:1 < x.P:=by omega
 have aM:0 < x.P:=by omega
 have hl:=F.l;have hdl:=F.vx.dl;have hdx:=qW F.vx n;have hdy:=qW F.vy n;have D:=sum_fam (k:= -1) F G;obtain⟨K',k1, -,k3⟩:=cycles_same F.sx F.vx hn;rw[k1]at hK;have:=wA hK;subst this;have k3:Red x.P (dc x n) K':=k3;obtain⟨B',b1, -,b3,b4,b5⟩:=bounds_full F.sy F.vy (n:=n) (by omega);rw[b1]at hB;have:=wA hB;subst this;rw[F.pp]at b3 b4;have hzv:=k3.ok z hz;have e1:subv x.P (im x y f n z) (im x y g n z) 1=im x y (sumF x.P f g (-1)) n z:=by
  have:=im_sum (k:= -1) F G hn hzv;rw[show -(-1:Int)=1 from rfl]at this;exact this.symm
 rw[e1];have TD:=D.t n hn;have TH:=H.t n hn;have TF:=F.t n hn;have v5:∀i,i < dc x n→im x y (sumF x.P f g (-1)) n (zH (dc x n) i)=hrow x y h n i:=fun i hi=> by
  unfold im;rw[lin_unitH F.vx.p TD (by omega) (by omega) hi,sumF_at (by rw[F.fl]; exact hn),smT_row (by rw[TF.len]; exact hi),←P n hn i hi];rfl
 have hDH:∃φ:L1→L1,Lin x.P (dc x n) (dc y n) φ∧(∀i,i < dc x n→φ (zH (dc x n) i)=dh x y h n i)∧∀v,qD x.P (dc x n) v→Sp x.P (dc y n) B' (φ v):=by
  by_cases c:n+1 < x.D.length
  ·have hdy1:=qW F.vy (n+1)
   have TM:=js F.vy (k:=n) (by omega);rw[F.pp]at TM;have LA:Lin x.P (dc x n) (dc y (n+1)) fun u=> lin x.P (dc y (n+1)) u (h.getD n []):=xE F.vx.p TH.len TH.rows (by omega) (by omega);have LB:Lin x.P (dc y (n+1)) (dc y n) fun u=> lin x.P (dc y n) u (y.M.getD n []):=xE F.vx.p TM.len TM.rows (by omega) (by omega);refine⟨_,LA.comp LB,fun i hi=>?_,fun v hv=>?_⟩
   ·rw[lin_unitH F.vx.p TH (by omega) (by omega) hi]
    unfold dh; rw[if_pos c]
   ·have E:=b4 (by omega)
    exact(E.sp _).2 (lin_space F.vx.p TM (by omega) (by omega) (LA.ok v hv))
  ·refine⟨fun _=> zv (dc y n),⟨fun _ _=> zj aM _,fun u v k _ _=>?_⟩,fun i _=> by unfold dh; rw[if_neg c],fun v _=> .zero⟩
   have rK:=zj (p:=x.P) aM (dc y n);exact rK.ext (qB aM rK.len rK.len) fun j hj=> Cg.symm ((qL rK.len rK.len hj).trans (by rw[zh]; exact⟨0,by simp⟩))
 obtain⟨φ,p1,p2,p3⟩:=hDH;by_cases c0:n=0
 ·subst c0
  rw[lin_ext cX (xz D hn) p1 (fun i hi=> by rw[v5 i hi,p2 i hi]; unfold hrow; rw[if_pos rfl]) hzv];exact p3 z hzv
 ·obtain⟨m,rfl⟩:∃m,n=m+1:=⟨n - 1,by omega⟩
  have hdm:=qW F.vx m;have TM:=js F.vx hn;have Th:=H.t m (by omega);have LA:Lin x.P (dc x (m+1)) (dc x m) fun u=> lin x.P (dc x m) u (x.M.getD m []):=xE F.vx.p TM.len TM.rows (by omega) (by omega);have LB:Lin x.P (dc x m) (dc y (m+1)) fun u=> lin x.P (dc y (m+1)) u (h.getD m []):=xE F.vx.p Th.len Th.rows (by omega) (by omega);have LL:=LA.comp LB;have zero:lin x.P (dc y (m+1)) (lin x.P (dc x m) z (x.M.getD m [])) (h.getD m [])=zv (dc y (m+1)):=by
   rw[cyc_zero F.sx F.vx hn k1 hz];exact LB.zero aM
  have all:=lin_ext cX (xz D hn) (lin_sum aM p1 LL) (fun i hi=> by
   rw[v5 i hi];rw[p2 i hi,lin_unitH F.vx.p TM (by omega) (by omega) hi];unfold hrow; rw[if_neg (by omega)];rfl) hzv
  rw[all,zero];have hφ:=p1.ok z hzv;have rK:=zj (p:=x.P) aM (dc y (m+1));have e:subv x.P (φ z) (zv (dc y (m+1))) (-1)=φ z:=(qB aM hφ.len rK.len).ext hφ fun j hj=>(qL hφ.len rK.len hj).trans (by rw[zh]; exact⟨0,by simp⟩);rw[e];exact p3 z hzv
def SqW(x:qa):Prop:=∀k,0 < k→k < x.M.length→∀row∈x.M.getD k [],lin x.P (dc x (k - 1)) row (x.M.getD (k - 1) [])=zv (dc x (k - 1))
theorem cyc_zeroW{x:qa}(hx:qJ x)(h:WideC x){m:Nat}(hn:m+1 < x.D.length){K:L2}(hK:F98 x ((m+1:Nat):Int)=some K){z:L1}(hz:z∈K):lin x.P (dc x m) z (x.M.getD m [])=zv (dc x m):=by
 have cX:1 < x.P:=by have:=h.p.range; omega
 have aM:0 < x.P:=by omega
 have hml:=h.ml;have hk:m < x.M.length:=by omega
 have ht:=h.tab m hk;have hdk:=h.dim (show m < x.D.length by omega);have hr:Rows x.P (dc x m) (x.M.getD m []):=fun r hr=>(ht.2 r hr).vec;have hw:=dc_lew h m;have hlen:=ht.1;have hdn:=h.dim hn;obtain⟨K',k1, -,k3,k4⟩:=kernel_full h.p hr (by omega) (by omega);unfold F98 at hK;rw[F99_at hx.d hn,ob,F76_eq hx.d hn hk,ob,←hlen,k1,ob]at hK;have hK:=wA hK;subst hK;obtain⟨q1,q2⟩:=(k4 z).1 (.mem aM k3.ok hz);have H:=jd h.p rfl hr (by omega) (by omega) q1;refine(jS H).ext (zj aM _) fun j hj=>(lin_at H hj).trans ?_;rw[q1.len,zh];exact q2 j hj
theorem sq_snoc{x:qa}(h:WideC x)(hs:SqW x){m d:Nat}(hm:x.D.length=m+1){K R:L2}(hK:F98 x (m:Int)=some K)(hKr:Rows x.P (dc x m) K)(hR:∀r∈R,Sp x.P (dc x m) K r):SqW ⟨x.P,x.D++[(d:Int)],x.M++[R]⟩:=by
 have hml:=h.ml;have cX:1 < x.P:=by have:=h.p.range; omega
 have aM:0 < x.P:=by omega
 intro k hk0 hk row hrow;simp only[wR,List.length_singleton]at hk;have edc:dc ⟨x.P,x.D++[(d:Int)],x.M++[R]⟩ (k - 1)=dc x (k - 1):=by
  unfold dc;simp only;rw[zW (by omega)]
 rw[edc];simp only at hrow ⊢;rw[zW (show k - 1 < x.M.length by omega)];by_cases c:k < x.M.length
 ·rw[zW c]at hrow
  exact hs k hk0 c row hrow
 ·have hk':k=x.M.length:=by omega
  rw[hk',getD_app_one]at hrow;obtain⟨j,rfl⟩:∃j,k=j+1:=⟨k - 1,by omega⟩;rw[vQ];obtain rfl:m=j+1:=by omega
  have ht:=h.tab j (by omega);have hr:Rows x.P (dc x j) (x.M.getD j []):=fun r hr=>(ht.2 r hr).vec;have hw:=dc_lew h j;have hw1:=dc_lew h (j+1);have hlen:=ht.1;have hdc:(x.M.getD j []).length=dc x (j+1):=by unfold dc; omega
  have L:Lin x.P (dc x (j+1)) (dc x j) fun u=> lin x.P (dc x j) u (x.M.getD j []):=xE h.p hdc hr (by omega) (by omega);exact Sp.zeros aM (fun r hr'=> by
   obtain⟨z,hz,rfl⟩:=wQ.1 hr';exact cyc_zeroW (xr h) h (by omega) hK hz) (L.sp aM hKr (hR row hrow))
theorem drawOf_valid{s:qm}(hs:zI s){p:Int}(hp:IsP p){D:L1}(hl:1≤D.length∧D.length≤6)(hD:∀d∈D,0≤d∧d≤8):∃x s',F417 s p D=some ⟨x,s'⟩∧zI s'∧DrawnC x∧SqW x∧x.P=p∧x.D=D:=by
 have hpr:=hp.range;have d0:=hD _ (qV (show 0 < D.length by omega) 0);unfold F417;rw[show(0:Int)=((0:Nat):Int) from rfl,qh (show 0 < D.length by omega) 0,ob];obtain⟨t,g1,g2⟩:=forR_from (B:=F417_1_B p D) (D:=F417_1_D) (lo:=1) (hi:=(D.length:Int)) 1 D.length rfl rfl hl.1 (by omega) (fun n s=> 1≤n∧zI s.1∧(WideC s.2∧SqW s.2)∧s.2.P=p∧s.2.D=D.take n) (fun t=> zI t.1∧(WideC t.2∧SqW t.2)∧t.2.P=p∧t.2.D=D) (s:=(s,⟨p,[D.getD 0 0],[]⟩)) ⟨wE _,hs,⟨⟨hp,by simp,by simp,fun e he=> by rw[List.mem_singleton.1 he]; omega,fun k hk=> absurd hk (by simp)⟩,fun k _ hk=> absurd hk (by simp)⟩,rfl,by
   obtain⟨a,r,rfl⟩:∃a r,D=a::r:=by cases D with|nil=> simp at hl|cons a r=> exact⟨a,r,rfl⟩
   rfl⟩ (by
  rintro n ⟨q,x⟩ hn ⟨h1,h2,⟨h3,hsq⟩,h4,h5⟩;left;simp only at h2 h3 hsq h4 h5;obtain⟨m,rfl⟩:∃m,n=m+1:=⟨n - 1,by omega⟩;have hxl:x.D.length=m+1:=by rw[h5,yG]; omega
  obtain⟨K,k1,k3⟩:=cyc_one (xr h3) h3 (n:=m) (by omega);rw[h4]at k3;have hKl:=jk k3;have hml:=h3.ml;have hdm:D.getD m 0=(dc x m:Int):=by
   rw[←dc_atw h3 (show m < x.D.length by omega),h5,gD,gD,List.getElem?_take_of_lt (by omega)]
  have hd8:=hD _ (qV (show m < D.length by omega) 0);have hdn:=hD _ (qV hn 0);obtain⟨d,hd⟩:∃d:Nat,D.getD (m+1) 0=(d:Int):=⟨(D.getD (m+1) 0).toNat,by omega⟩;have L:∃t,qA (F417_2_S p D K ((m+1:Nat):Int)) ((q,[]),0)=some t∧(zI t.1∧t.2.length=d∧Rows p (dc x m) t.2∧∀r∈t.2,Sp p (dc x m) K r):=by
   refine qQ (S:=F417_2_S p D K ((m+1:Nat):Int)) (fun s=>((d:Int) - s.2).toNat) (fun s=>∃i:Nat,i≤d∧s.2=(i:Int)∧zI s.1.1∧s.1.2.length=i∧Rows p (dc x m) s.1.2∧∀r∈s.1.2,Sp p (dc x m) K r) _ ⟨0,by omega,rfl,h2,rfl,(fun r hr=> nomatch hr),fun r hr=> nomatch hr⟩ ?_;rintro⟨⟨u,R⟩,i'⟩ ⟨i,p1,p2,p3,p4,p5,p6⟩;simp only at p2 p3 p4 p5 p6;subst p2;unfold F417_2_S;simp only;rw[qh hn 0,ob,hd];by_cases c:i < d
   ·left
    obtain⟨v,u',e1,f1,f2,f3⟩:=vector_ok p3 (show 1≤p by omega) (n:=K.length) (by omega);have hv:qD p K.length v:=vec_of f2 f3;have H:LinOK p (dc x m) v K:=jd hp rfl k3.ok (by omega) (by omega) hv;rw[if_pos (by omega),e1,ob,ql (by omega) (by omega),ob,show((m+1:Nat):Int) - 1=(m:Int) by omega,qh (show m < D.length by omega) 0,ob,hdm,F80_eq H rfl,ob,qU (by simp only[List.length_singleton]; omega) (by simp only[List.length_singleton]; omega),ob,ql (by omega) (by omega),ob];refine⟨_,rfl,⟨i+1,by omega,rfl,f1,by simp[p4],(fun r hr=>?_),fun r hr=>?_⟩,by simp only; omega⟩
    ·rcases wN.1 hr with z|z
     ·exact p5 r z
     ·rw[List.mem_singleton.1 z]; exact jS H
    ·rcases wN.1 hr with z|z
     ·exact p6 r z
     ·rw[List.mem_singleton.1 z]; exact lin_space hp ⟨rfl,k3.ok⟩ (by omega) (by omega) hv
   ·right
    rw[if_neg (by omega)];exact⟨_,rfl,p3,by simp only; omega,p5,p6⟩
  obtain⟨⟨u,R⟩,l1,l2,l3,l4,l5⟩:=L;simp only at l2 l3 l4 l5;refine⟨(u,⟨x.P,x.D++[(d:Int)],x.M++[R]⟩),?_,by omega,l2,⟨wide_snoc h3 (by omega) l3 (by rw[hxl,h4]; exact l4) (by omega),sq_snoc h3 hsq (by omega) k1 (by rw[h4]; exact k3.ok) (by rw[h4]; exact l5)⟩,h4,?_⟩
  ·unfold F417_1_B
   simp only;rw[ql (by omega) (by omega),ob,show((m+1:Nat):Int) - 1=(m:Int) by omega,k1,ob,l1,ob,qh hn 0,ob,hd,qU (by simp only[List.length_singleton]; omega) (by simp only[List.length_singleton]; omega),ob,qU (by simp only[List.length_singleton]; omega) (by simp only[List.length_singleton]; omega),ob]
  ·simp only
   rw[h5,←hd];exact take_one 0 hn) (by
  rintro⟨q,x⟩ ⟨h1,h2,h3,h4,h5⟩;exact⟨_,rfl,h2,h3,h4,by simp only at h5 ⊢; rw[h5,wT (by omega)]⟩)
 rw[g1,ob];obtain⟨f1,f2,f3,f4⟩:=g2;exact⟨t.2,t.1,rfl,f1,⟨f2.1,by rw[f4]; exact hl.2,by rw[f4]; exact hD⟩,f2.2,f3,f4⟩
theorem drawn_valid{x:qa}(h:DrawnC x)(hs:SqW x):qS x:=by
 have hw:=h.w;refine⟨⟨hw.p,⟨hw.dl.1,h.l⟩,hw.ml,h.d⟩,hw.tab,fun k h0 hk row hrow y hy=>?_⟩;have e:=hs k h0 hk row hrow;unfold dc at e;rw[e]at hy;exact(List.mem_replicate.1 hy).2
theorem forR_range{α:Type}{N:Nat}(T:Nat→α){B:Int→List α→Option (List α⊕List α)}{D:Int→List α→Option (List α)}(hN:N≤1000)(hB:∀n:Nat,n < N→∀s:List α,s.length=n→B n s=some (.inl (s++[T n])))(hD:∀i s,D i s=some s):forR 0 (N:Int) B D []=some ((List.range N).map T):=by
 have:=forR_map (l:=List.range N) T (B:=B) (D:=D) (s0:=[]) (by simp; omega) (fun n hn s hs=> by
  have hn':n < N:=by simpa using hn
  rw[List.getElem_range];exact hB n hn' s (by simpa using hs)) hD
 rw[List.length_range]at this;rw[this,yI]
theorem range_at{α:Type}{N n:Nat}(T:Nat→List α)(h:n < N):((List.range N).map T).getD n []=T n:=by
 rw[gD,gB (by simpa using h)];simp
structure PairC (x y:qa):Prop where
 vx:qS x
 vy:qS y
 pp:y.P=x.P
 l:y.D.length=x.D.length
theorem PairC.sx{x y:qa}(P:PairC x y):qJ x:=xr P.vx.wide
theorem PairC.sy{x y:qa}(P:PairC x y):qJ y:=xr P.vy.wide
theorem jm{p:Int}{N:Nat}{c w:Nat→Nat}{f:T3s}(hN:N≤1000)(hc:∀n,c n≤100∧w n≤100)(F:FamS p N c w f):zS f:=by
 refine⟨by rw[F.fl]; omega,fun m hm=>?_⟩;obtain⟨n,hn,rfl⟩:=wK hm;have hn':n < N:=by rw[←F.fl]; exact hn
 have T:=F.t n hn';rw[gD,gB hn,yL]at T;have:=hc n;exact⟨by rw[T.len]; omega,fun r hr=> by have:=(T.rows r hr).len; omega⟩
theorem PairC.le{x y:qa}(P:PairC x y)(s n:Nat):dc x n≤100∧dc y (n+s)≤100:=⟨by have:=qW P.vx n; omega,by have:=qW P.vy (n+s); omega⟩
theorem PairC.fam{x y:qa}(P:PairC x y){f:T3s}(F:FamS x.P x.D.length (dc x) (dc y) f):Fam x y f:=
 ⟨P.sx,P.sy,jm (by have:=P.vx.dl; omega) (P.le 0) F,P.vx,P.vy,P.pp,P.l,F.fl,F.t⟩
theorem FamS.hom{x y:qa}{h:T3s}(F:FamS x.P x.D.length (dc x) (fun n=> dc y (n+1)) h):HomS x y h:=⟨F.fl,F.t⟩
def zerT(x y:qa)(s n:Nat):L2:=(List.range (dc x n)).map fun _=> zv (dc y (n+s))
theorem zero_run{x y:qa}(P:PairC x y){s:Nat}(hs:s≤1):∃z,F498 x y (s:Int)=some z∧FamS x.P x.D.length (dc x) (fun n=> dc y (n+s)) z:=by
 have hdl:=P.vx.dl;have hl:=P.l;have aM:0 < x.P:=by have:=P.vx.p.range; omega
 refine⟨(List.range x.D.length).map (zerT x y s),?_,by simp,fun n hn=>?_⟩
 ·unfold F498
  rw[forR_range (N:=x.D.length) (zerT x y s) (B:=F498_1_B x y (s:Int)) (D:=F498_1_D x y (s:Int)) (by omega) (fun n hn o ho=> by
   have hdx:=qW P.vx n;have hdy:=qW P.vy (n+s);have inner:qA (F498_2_S x y (s:Int) o (n:Int)) ([],0)=some (zerT x y s n):=by
    unfold zerT;rw[←coll_one];refine xw (n:=dc x n) _ (fun i=> by simp) (fun i q hi hq=>?_) fun q=>?_
    ·unfold F498_2_S
     simp only;rw[qh hn 0,ob,xn P.vx hn,if_pos (by omega),ql (by omega) (by omega),ob,show(n:Int)+(s:Int)=((n+s:Nat):Int) by omega,F99_dc P.sy P.vy (by omega),ob,mkL_ok (dc y (n+s)) rfl (by omega) (by omega),ob,qU (by simp; omega) (by simp; omega),ob,ql (by omega) (by omega),ob];rfl
    ·unfold F498_2_S
     simp only;rw[qh hn 0,ob,xn P.vx hn,if_neg (by omega)]
   unfold F498_1_B;rw[inner,ob,qU (by simp; omega) (by simp; omega),ob]) (fun i o=> rfl),ob]
 ·rw[range_at _ hn]
  refine⟨by simp[zerT],fun r hr=>?_⟩;obtain⟨i,hi,rfl⟩:=wQ.1 hr;exact zj aM _
theorem getD_setF{α:Type}{l:List α}{i n:Nat}{a d:α}(h:i < l.length):(l.set i a).getD n d=if n=i then a else l.getD n d:=by
 rw[gD,gD,gK];by_cases c:i=n
 ·subst c; rw[if_pos rfl,if_pos h,if_pos rfl]; rfl
 ·rw[if_neg c,if_neg (fun e=> c e.symm)]
theorem random_run{x y:qa}(P:PairC x y){s:Nat}(hs:s≤1){src:qm}(hsrc:zI src):∃f src',F487 src x y (s:Int)=some ⟨f,src'⟩∧zI src'∧FamS x.P x.D.length (dc x) (fun n=> dc y (n+s)) f:=by
 have hpr:=P.vx.p.range;have hdl:=P.vx.dl;obtain⟨z,z1,z2⟩:=zero_run P hs;have cell:∀ (q:qm) (row:L1) (w:Nat),w≤1000→zI q→qD x.P w row→∃t,qA (F487_3_S x.P) ((q,row),0)=some t∧(zI t.1∧qD x.P w t.2):=fun q row w hw hq hrow=> by
  refine qQ (S:=F487_3_S x.P) (fun s=>((w:Int) - s.2).toNat) (fun s=>∃i:Nat,s.2=(i:Int)∧i≤w∧zI s.1.1∧qD x.P w s.1.2) _ ⟨0,rfl,vD _,hq,hrow⟩ ?_;rintro⟨⟨q,r⟩,j⟩ ⟨i,e,hi,h1,h2⟩;simp only at e h1 h2;subst e;have hl:=h2.len;unfold F487_3_S;simp only;by_cases c:i < w
  ·left
   rw[if_pos (by omega)];obtain⟨a,q1,a1,a2, -, -, -⟩:=jc h1 3;rw[a1,ob];simp only;by_cases c2:a=0
   ·obtain⟨b,q2,b1,b2,b3,b4, -⟩:=jc a2 x.P
    have b4:=b4 (by omega);rw[if_pos c2,b1,ob];simp only;rw[zg (by omega),ob,ql (by omega) (by omega),ob];refine⟨_,rfl,⟨i+1,by simp,by omega,b2,by simp[hl],fun k hk=>?_⟩,by simp only; omega⟩;simp only;rw[qP (by simp[hl]; exact hk),List.getElem_set];split
    ·exact⟨b3,b4⟩
    ·have:=h2.rng k hk
     rwa[qP (by omega)]at this
   ·rw[if_neg c2,ql (by omega) (by omega),ob]
    exact⟨_,rfl,⟨i+1,by simp,by omega,a2,h2⟩,by simp only; omega⟩
  ·right
   rw[if_neg (by omega)];exact⟨_,rfl,h1,h2⟩
 have tab:∀ (n:Nat),n < x.D.length→∀ (q:qm) (f:T3s),zI q→FamS x.P x.D.length (dc x) (fun n=> dc y (n+s)) f→∃t,qA (F487_2_S x.P (n:Int)) ((q,f),0)=some t∧(zI t.1∧FamS x.P x.D.length (dc x) (fun n=> dc y (n+s)) t.2):=fun n hn q f hq hf=> by
  refine qQ (S:=F487_2_S x.P (n:Int)) (fun s=>((dc x n:Int) - s.2).toNat) (fun t=>∃i:Nat,t.2=(i:Int)∧i≤dc x n∧zI t.1.1∧FamS x.P x.D.length (dc x) (fun n=> dc y (n+s)) t.1.2) _ ⟨0,rfl,vD _,hq,hf⟩ ?_;rintro⟨⟨q,f⟩,j⟩ ⟨i,e,hi,h1,h2⟩;simp only at e h1 h2;subst e;have hdx:=qW P.vx n;have hdy:=qW P.vy (n+s);have hfl:=h2.fl;have T:=h2.t n hn;have hTl:=T.len;unfold F487_2_S;simp only;rw[qh (show n < f.length by omega) [],ob];by_cases c:i < dc x n
  ·left
   rw[if_pos (by omega),qk (show i < (f.getD n []).length by omega),ob];obtain⟨⟨q',r'⟩,c1,c2,c3⟩:=cell q _ (dc y (n+s)) (by omega) h1 (T.rows _ (wC (show i < (f.getD n []).length by omega)));simp only at c2 c3;rw[c1,ob];simp only;rw[zg (show i < (f.getD n []).length by omega),ob,zg (show n < f.length by omega),ob,ql (by omega) (by omega),ob];refine⟨_,rfl,⟨i+1,by simp,by omega,c2,by simp[hfl],fun k hk=>?_⟩,by simp only; omega⟩;simp only;rw[getD_setF (by omega)];by_cases ck:k=n
   ·subst ck
    rw[if_pos rfl];refine⟨by rw[vW]; exact hTl,fun r hr=>?_⟩;rcases List.mem_or_eq_of_mem_set hr with hr|hr
    ·exact T.rows r hr
    ·rw[hr]; exact c3
   ·rw[if_neg ck]; exact h2.t k hk
  ·right
   rw[if_neg (by omega)];exact⟨_,rfl,h1,h2⟩
 have all:∃t,qA (F487_1_S x.P) ((src,z),0)=some t∧(zI t.1∧FamS x.P x.D.length (dc x) (fun n=> dc y (n+s)) t.2):=by
  refine qQ (S:=F487_1_S x.P) (fun s=>((x.D.length:Int) - s.2).toNat) (fun t=>∃i:Nat,t.2=(i:Int)∧i≤x.D.length∧zI t.1.1∧FamS x.P x.D.length (dc x) (fun n=> dc y (n+s)) t.1.2) _ ⟨0,rfl,vD _,hsrc,z2⟩ ?_;rintro⟨⟨q,f⟩,j⟩ ⟨i,e,hi,h1,h2⟩;simp only at e h1 h2;subst e;have hfl:=h2.fl;unfold F487_1_S;simp only;by_cases c:i < x.D.length
  ·left
   obtain⟨t,c1,c2,c3⟩:=tab i c q f h1 h2;rw[if_pos (by omega),c1,ob,ql (by omega) (by omega),ob];exact⟨_,rfl,⟨i+1,by simp,by omega,c2,c3⟩,by simp only; omega⟩
  ·right
   rw[if_neg (by omega)];exact⟨_,rfl,h1,h2⟩
 obtain⟨⟨q,f⟩,a1,a2,a3⟩:=all;unfold F487;rw[z1,ob,a1,ob];exact⟨f,q,rfl,a2,a3⟩
theorem edge_run{x y:qa}(P:PairC x y){h:T3s}(H:HomS x y h):∃e,F489 x y h=some e∧FamS x.P x.D.length (dc x) (dc y) e:=by
 have hpr:=P.vx.p.range;have cX:1 < x.P:=by omega
 have aM:0 < x.P:=by omega
 have hdl:=P.vx.dl;have hl:=P.l;have hhl:=H.fl;obtain⟨z, -,z2⟩:=zero_run P (s:=0) (by omega);have F:=P.fam z2;refine⟨(List.range x.D.length).map fun n=>(List.range (dc x n)).map fun i=> hrow x y h n i,?_,by simp,fun n hn=>?_⟩
 ·unfold F489
  rw[forR_range (N:=x.D.length) (fun n=>(List.range (dc x n)).map fun i=> hrow x y h n i) (B:=F489_1_B x y h) (D:=F489_1_D x y h) (by omega) (fun n hn o ho=> by
   have hdx:=qW P.vx n;have hdy:=qW P.vy n;have TH:=H.t n hn;have inner:qA (F489_2_S x y h o (n:Int)) ([],0)=some ((List.range (dc x n)).map fun i=> hrow x y h n i):=by
    rw[←coll_one];refine xw (n:=dc x n) _ (fun i=> by simp) (fun i q hi hq=>?_) fun q=>?_
    ·have h1:getI h (n:Int)=some (h.getD n []):=qh (by omega) []
     have h2:getI (h.getD n []) (i:Int)=some (qi (h.getD n []) i):=by rw[qk (by rw[TH.len]; exact hi),qC (by rw[TH.len]; exact hi)]
     have hz:(List.replicate (dc y n) 0:L1)=zv (dc y n):=rfl;obtain⟨d1,d2⟩:=dh_run F H hn hi;unfold F489_2_S;dsimp only;rw[qh hn 0,ob,xn P.vx hn,if_pos (by omega),F99_dc P.sy P.vy (by omega),ob,mkL_ok (dc y n) rfl (by omega) (by omega),ob,ql (by omega) (by omega),ob,hz];by_cases c:n+1 < x.D.length
     ·rw[if_pos (by omega),h1,ob,h2,ob,show(n:Int)+1=((n+1:Nat):Int) by omega,(d2 c).1,ob]
      by_cases c0:n=0
      ·subst c0
       have eh:hrow x y h 0 i=dh x y h 0 i:=by unfold hrow; rw[if_pos rfl]
       rw[if_neg (by omega),eh,qU (by simp; omega) (by simp; omega),ob,ql (by omega) (by omega),ob]
      ·obtain⟨m,rfl⟩:∃m,n=m+1:=⟨n - 1,by omega⟩
       obtain⟨k1,k2,k3⟩:=hd_run F H hn hi;obtain⟨u2, -, -, -⟩:=df_eq F.sx F.vx hn (zT cX hi);rw[xI F.sx F.vx hn hi]at u2;have eh:hrow x y h (m+1) i=subv x.P (dh x y h (m+1) i) (hd x y h (m+1) i) (-1):=by unfold hrow; rw[if_neg (by omega)]
       rw[if_pos (by omega),ql (by omega) (by omega),ob,F272_eq hi (by omega),ob,u2,ob,show((m+1:Nat):Int) - 1=(m:Int) by omega,k2,ob,add_loop hpr d1 k1 (by omega) (fun s j=> rfl),ob,eh,qU (by simp; omega) (by simp; omega),ob,ql (by omega) (by omega),ob]
     ·have ed:dh x y h n i=zv (dc y n):=by unfold dh; rw[if_neg c]
      rw[if_neg (by omega)];by_cases c0:n=0
      ·subst c0
       have eh:hrow x y h 0 i=zv (dc y 0):=by unfold hrow; rw[if_pos rfl,ed]
       rw[if_neg (by omega),eh,qU (by simp; omega) (by simp; omega),ob,ql (by omega) (by omega),ob]
      ·obtain⟨m,rfl⟩:∃m,n=m+1:=⟨n - 1,by omega⟩
       obtain⟨k1,k2,k3⟩:=hd_run F H hn hi;obtain⟨u2, -, -, -⟩:=df_eq F.sx F.vx hn (zT cX hi);rw[xI F.sx F.vx hn hi]at u2;have eh:hrow x y h (m+1) i=subv x.P (zv (dc y (m+1))) (hd x y h (m+1) i) (-1):=by unfold hrow; rw[if_neg (by omega),ed]
       rw[if_pos (by omega),ql (by omega) (by omega),ob,F272_eq hi (by omega),ob,u2,ob,show((m+1:Nat):Int) - 1=(m:Int) by omega,k2,ob,add_loop hpr (zj aM _) k1 (by omega) (fun s j=> rfl),ob,eh,qU (by simp; omega) (by simp; omega),ob,ql (by omega) (by omega),ob]
    ·unfold F489_2_S
     dsimp only;rw[qh hn 0,ob,xn P.vx hn,if_neg (by omega)]
   unfold F489_1_B;rw[inner,ob,qU (by simp; omega) (by simp; omega),ob]) (fun i o=> rfl),ob]
 ·rw[range_at _ hn]
  refine⟨by simp,fun r hr=>?_⟩;obtain⟨i,hi,rfl⟩:=wQ.1 hr;exact hrow_ok F H hn (wX.1 hi)
theorem ident_run{x:qa}(hx:qS x):∃e,F474 x=some ⟨e,0⟩∧FamS x.P x.D.length (dc x) (dc x) e:=by
 have hpr:=hx.p.range;have cX:1 < x.P:=by omega
 have hdl:=hx.dl;have hs:=xr hx.wide;refine⟨(List.range x.D.length).map fun n=>(List.range (dc x n)).map fun i=> zH (dc x n) i,?_,by simp,fun n hn=>?_⟩
 ·obtain⟨b,d1,d2⟩:=F39_tells hs
  have:b=true:=d2.2 hx;subst this;unfold F474;rw[d1,ob,if_pos rfl,forR_range (N:=x.D.length) (fun n=>(List.range (dc x n)).map fun i=> zH (dc x n) i) (B:=F474_1_B x) (D:=F474_1_D x) (by omega) (fun n hn o ho=> by
   have hdx:=qW hx n;have inner:qA (F474_2_S x o (n:Int)) ([],0)=some ((List.range (dc x n)).map fun i=> zH (dc x n) i):=by
    rw[←coll_one];refine xw (n:=dc x n) _ (fun i=> by simp) (fun i q hi hq=>?_) fun q=>?_
    ·unfold F474_2_S
     dsimp only;rw[qh hn 0,ob,xn hx hn,if_pos (by omega),F272_eq hi (by omega),ob,qU (by simp; omega) (by simp; omega),ob,ql (by omega) (by omega),ob]
    ·unfold F474_2_S
     dsimp only;rw[qh hn 0,ob,xn hx hn,if_neg (by omega)]
   unfold F474_1_B;rw[inner,ob,qU (by simp; omega) (by simp; omega),ob]) (fun i o=> rfl),ob]
 ·rw[range_at _ hn]
  refine⟨by simp,fun r hr=>?_⟩;obtain⟨i,hi,rfl⟩:=wQ.1 hr;exact zT cX (wX.1 hi)
theorem jE{a b:List Nat}(h:a.length+b.length≤1000000):addS a b=some ⟨a++b⟩:=by
 unfold addS;rw[if_pos (by omega)]
theorem dig_run{n:Int}(h:0≤n∧n≤9):F500 n=some ⟨[(48+n).toNat]⟩:=by
 have:n=0∨n=1∨n=2∨n=3∨n=4∨n=5∨n=6∨n=7∨n=8∨n=9:=by omega
 rcases this with rfl|rfl|rfl|rfl|rfl|rfl|rfl|rfl|rfl|rfl <;> rfl
theorem rowtext_run{m:L2}{i:Nat}(hi:i < m.length){b:Nat}{s:Str}(hs:s.val.length≤b)(hb:b≤10000)(hl:m[i].length≤8)(hr:∀v∈m[i],0≤v∧v≤9):∃t,qA (jt m (i:Int)) (s,0)=some t∧t.val.length≤b+8:=by
 refine qQ (S:=jt m (i:Int)) (fun s=>((m[i].length:Int) - s.2).toNat) (fun s=>∃j:Nat,s.2=(j:Int)∧j≤m[i].length∧s.1.val.length≤b+j) (fun t=> t.val.length≤b+8) ⟨0,rfl,vD _,hs⟩ ?_;rintro⟨s,j⟩ ⟨j,e,hj,h1⟩;simp only at e h1;subst e;unfold jt;dsimp only;rw[qk hi,ob];by_cases c:j < m[i].length
 ·left
  rw[if_pos (by omega),qk c,ob,dig_run (hr _ (wC c)),ob,jE (by simp; omega),ob,ql (by omega) (by omega),ob];exact⟨_,rfl,⟨j+1,by simp,by omega,by simp; omega⟩,by simp only; omega⟩
 ·right
  rw[if_neg (by omega)];exact⟨_,rfl,by simp only; omega⟩
theorem rowstext_run{m:L2}(hm:m.length≤8)(hr:∀r∈m,r.length≤8∧∀v∈r,0≤v∧v≤9):∃t,F501 m=some t∧t.val.length≤100:=by
 unfold F501;by_cases c:(m.length:Int)=0
 ·rw[if_pos c]; exact⟨_,rfl,by simp⟩
 rw[if_neg c];obtain⟨t,g1,g2⟩:=qy (B:=F501_1_B m) (D:=F501_1_D m) (hi:=(m.length:Int)) m.length rfl (by omega) (fun i s=> s.val.length≤10*i) (fun t=> t.val.length≤100) (s:=(⟨[]⟩:Str)) (by simp) (by
  rintro i s hi hs;left;have hrow:=hr _ (wC hi);have go:∀ (b:Nat) (s:Str),s.val.length≤b→b≤10*i+2→∃t,qA (jt m (i:Int)) (s,0)=some t∧t.val.length≤10*(i+1):=fun b s h1 h2=> by
   obtain⟨t,a,b⟩:=rowtext_run hi h1 (by omega) hrow.1 hrow.2;exact⟨t,a,by omega⟩
  unfold F501_1_B;by_cases c0:0 < (i:Int)
  ·rw[if_pos c0,jE (by simp; omega),ob,qk hi,ob]
   by_cases c1:(m[i].length:Int)=0
   ·rw[if_pos c1,jE (by simp; omega),ob]
    obtain⟨t,a,b⟩:=go (10*i+2) ⟨s.val++[44]++[45]⟩ (by simp; omega) (by omega);rw[a,ob];exact⟨_,rfl,b⟩
   ·rw[if_neg c1]
    obtain⟨t,a,b⟩:=go (10*i+1) ⟨s.val++[44]⟩ (by simp; omega) (by omega);rw[a,ob];exact⟨_,rfl,b⟩
  ·rw[if_neg c0,qk hi,ob]
   by_cases c1:(m[i].length:Int)=0
   ·rw[if_pos c1,jE (by simp; omega),ob]
    obtain⟨t,a,b⟩:=go (10*i+1) ⟨s.val++[45]⟩ (by simp; omega) (by omega);rw[a,ob];exact⟨_,rfl,b⟩
   ·rw[if_neg c1]
    obtain⟨t,a,b⟩:=go (10*i) ⟨s.val⟩ hs (by omega);rw[a,ob];exact⟨_,rfl,b⟩) (by
  rintro s hs;exact⟨_,rfl,by show s.val.length≤100; omega⟩)
 rw[g1,ob];exact⟨_,rfl,g2⟩
def dT(p:Int)(D:L1):Nat→List Nat
 |0=>[(48+p).toNat]++[58]
 |k+1=>(if k=0 then dT p D k else dT p D k++[44])++[(48+D.getD k 0).toNat]
theorem dT_len(p q:Int)(D E:L1):∀k,(dT p D k).length=(dT q E k).length∧(dT p D k).length≤2+2*k
 |0=>⟨rfl,by simp[dT]⟩
 |k+1=> by
  obtain⟨a,b⟩:=dT_len p q D E k;unfold dT;by_cases c:k=0
  ·rw[if_pos c,if_pos c]; simp[a]; omega
  ·rw[if_neg c,if_neg c]; simp[a]; omega
theorem dT_inj{p q:Int}{D E:L1}:∀ {k:Nat},dT p D k=dT q E k→∀i,i < k→(48+D.getD i 0).toNat=(48+E.getD i 0).toNat
 |0,_,i,hi=> absurd hi (yH _)
 |k+1,h,i,hi=> by
  unfold dT at h;have hl:=(dT_len p q D E k).1;have h2:(if k=0 then dT p D k else dT p D k++[44])=(if k=0 then dT q E k else dT q E k++[44])∧[(48+D.getD k 0).toNat]=[(48+E.getD k 0).toNat]:=by
   refine List.append_inj h ?_;by_cases c:k=0
   ·rw[if_pos c,if_pos c]; exact hl
   ·rw[if_neg c,if_neg c]; simp[hl]
  by_cases e:i=k
  ·subst e
   exact(List.cons.inj h2.2).1
  ·refine dT_inj (p:=p) (q:=q) (k:=k) ?_ i (by omega)
   by_cases c:k=0
   ·rw[if_pos c,if_pos c]at h2; exact h2.1
   ·rw[if_neg c,if_neg c]at h2; exact List.append_cancel_right h2.1
theorem text_run{x:qa}(hx:qS x):∃r:List Nat,F499 x=some ⟨dT x.P x.D x.D.length++r⟩:=by
 have hpr:=hx.p.range;have hdl:=hx.dl;have hml:=hx.ml;have hdl2:=(dT_len x.P x.P x.D x.D x.D.length).2;unfold F499;rw[dig_run (by omega),ob,jE (by simp),ob];obtain⟨t,g1,g2⟩:=qy (B:=F499_1_B x) (D:=F499_1_D x) (hi:=(x.D.length:Int)) x.D.length rfl (by omega) (fun i s=> s.val=dT x.P x.D i) (fun t=> t.val=dT x.P x.D x.D.length) (s:=(⟨[(48+x.P).toNat]++[58]⟩:Str)) rfl (by
  rintro i s hi hs;left;have hd:=hx.dims _ (qV hi 0);have hl:=(dT_len x.P x.P x.D x.D i).2;rw[←hs]at hl;unfold F499_1_B;by_cases c0:0 < (i:Int)
  ·rw[if_pos c0,jE (by simp; omega),ob,qh hi 0,ob,dig_run (by omega),ob,jE (by simp; omega),ob]
   refine⟨_,rfl,?_⟩;show s.val++[44]++[(48+x.D.getD i 0).toNat]=dT x.P x.D (i+1);rw[hs];show _=(if i=0 then dT x.P x.D i else dT x.P x.D i++[44])++[(48+x.D.getD i 0).toNat];rw[if_neg (by omega)]
  ·rw[if_neg c0,qh hi 0,ob,dig_run (by omega),ob,jE (by simp; omega),ob]
   refine⟨_,rfl,?_⟩;show s.val++[(48+x.D.getD i 0).toNat]=dT x.P x.D (i+1);rw[hs];show _=(if i=0 then dT x.P x.D i else dT x.P x.D i++[44])++[(48+x.D.getD i 0).toNat];rw[if_pos (by omega)]) (by
  rintro s hs;exact⟨_,rfl,hs⟩)
 have htl:t.val.length≤100:=by rw[g2]; omega
 rw[g1,ob,jE (by simp; omega),ob];obtain⟨u,f1,f2⟩:=qy (B:=F499_2_B x) (D:=F499_2_D x) (hi:=(x.M.length:Int)) x.M.length rfl (by omega) (fun i s=>∃r:List Nat,s.val=t.val++r∧r.length≤1+101*i) (fun u=>∃r:List Nat,u.val=t.val++r) (s:=(⟨t.val++[58]⟩:Str)) ⟨[58],rfl,by simp⟩ (by
  rintro i s hi ⟨r,h1,h2⟩;left;have T:=js hx (k:=i) (by omega);have rL:=qW hx (i+1);have tO:=qW hx i;obtain⟨w,w1,w2⟩:=rowstext_run (m:=x.M.getD i []) (by rw[T.len]; omega) (fun q hq=>⟨by rw[(T.rows q hq).len]; omega,fun v hv=> by
   obtain⟨j,hj,rfl⟩:=wK hv;have:=(T.rows q hq).rng j (by rw[←(T.rows q hq).len]; exact hj);rw[qP hj]at this;omega⟩)
  have hsl:s.val.length=t.val.length+r.length:=by rw[h1]; simp
  unfold F499_2_B;by_cases c0:0 < (i:Int)
  ·rw[if_pos c0,jE (by simp; omega),ob,qh hi [],ob,w1,ob,jE (by simp; omega),ob]
   exact⟨_,rfl,r++[59]++w.val,by simp[h1],by simp; omega⟩
  ·rw[if_neg c0,qh hi [],ob,w1,ob,jE (by omega),ob]
   exact⟨_,rfl,r++w.val,by simp[h1],by simp; omega⟩) (by
  rintro s ⟨r,h1, -⟩;exact⟨_,rfl,r,h1⟩)
 obtain⟨r,h1⟩:=f2;rw[f1,ob];exact⟨r,by rw[h1,g2]⟩
theorem text_same{x y:qa}(hx:qS x)(hy:qS y)(hl:y.D.length=x.D.length){s t:Str}(h1:F499 x=some s)(h2:F499 y=some t)(e:s.val=t.val)(n:Nat)(hn:n < x.D.length):dc y n=dc x n:=by
 obtain⟨r,a⟩:=text_run hx;obtain⟨q,b⟩:=text_run hy;rw[a]at h1;rw[b]at h2;have h1:=wA h1;have h2:=wA h2;subst h1; subst h2;simp only at e;rw[hl]at e;have:=(List.append_inj e (dT_len _ _ _ _ _).1).1;have:=dT_inj this n hn;have d1:=hx.dims _ (qV hn 0);have d2:=hy.dims _ (qV (show n < y.D.length by omega) 0);unfold dc;omega
theorem draw_valid{s:qm}(hs:zI s):∃x s',F415 s=some ⟨x,s'⟩∧zI s'∧qS x:=by
 unfold F415 F423;obtain⟨p,s1,e1,k1,k2⟩:=pick_ok hs (l:=[2,2,3,3,5,7]) (by simp) (by simp);have hp:IsP p:=by
  simp only[vA,yW,or_false]at k2;unfold IsP; omega
 obtain⟨a,s2,e2,k3,k4,k5, -⟩:=jc k1 6;have k5':=k5 (by omega);obtain⟨b,s3,e3,k6,k7⟩:=pick_ok k3 (l:=[0,1,2,2,3,a]) (by simp) (by simp);have hb:0≤b∧b≤5:=by
  simp only[vA,yW,or_false]at k7;omega
 rw[e1,ob,ob];simp only;rw[e2,ob];simp only;rw[e3,ob];simp only;rw[ql (by omega) (by omega),ob];obtain⟨N,hN⟩:∃N:Nat,1+b=(N:Int):=⟨(1+b).toNat,by omega⟩;rw[hN];have L:∃t,qA (F415_1_S ⟨p,s1⟩) (s3.code,s3.at_,s3.hash,[],(N:Int))=some t∧(∃ (q:qm) (o:L1),t=(q.code,q.at_,q.hash,o)∧zI q∧o.length=N∧∀d∈o,0≤d∧d≤8):=by
  refine qQ (S:=F415_1_S ⟨p,s1⟩) (fun s=>(s.2.2.2.2).toNat) (fun s=>∃ (q:qm) (o:L1) (m:Nat),s=(q.code,q.at_,q.hash,o,(m:Int))∧zI q∧o.length+m=N∧∀d∈o,0≤d∧d≤8) _ ⟨s3,[],N,rfl,k6,by simp,fun y hy=> nomatch hy⟩ ?_;rintro _ ⟨q,o,m,rfl,h1,h2,h3⟩;unfold F415_1_S;simp only;by_cases cm:0 < (m:Int)
  ·left
   obtain⟨c,q1,f1,f2,f3,f4, -⟩:=jc h1 9;have f4':=f4 (by omega);obtain⟨y,q2,i1,i2,i3⟩:=pick_ok f2 (l:=[0,1,1,2,2,3,4,c]) (by simp) (by simp);have hy:0≤y∧y≤8:=by
    simp only[vA,yW,or_false]at i3;omega
   rw[if_pos cm,f1,ob];simp only;rw[i1,ob,qU (by simp; omega) (by simp; omega),ob,ql (by omega) (by omega),ob];refine⟨_,rfl,⟨q2,o++[y],m - 1,by simp only[wH,true_and]; omega,i2,by simp; omega,fun z hz=>?_⟩,by simp only; omega⟩;rcases wN.1 hz with hz|hz
   ·exact h3 z hz
   ·rw[List.mem_singleton.1 hz]; exact hy
  ·right
   rw[if_neg cm];exact⟨_,rfl,q,o,rfl,h1,by omega,h3⟩
 obtain⟨_,g1,q,o,rfl,h1,h2,h3⟩:=L;rw[g1,ob];simp only;obtain⟨x,s',e4,j1,j2,j3, -⟩:=drawOf_valid h1 hp (D:=o) (by omega) h3;have e4':F417 ⟨q.code,q.at_,q.hash⟩ p o=some ⟨x,s'⟩:=e4;rw[e4',ob];exact⟨x,s',rfl,j1,drawn_valid j2 j3⟩
theorem zero_rows{T:L2}{k w:Nat}{ms:T3s}(hk:k < ms.length)(hT:ms.getD k []=T)(hl:T.length≤100)(hw:w≤100)(hr:∀r∈T,r.length=w):∃t,qA (F486_3_S (k:Int)) (ms,0)=some t∧(t.length=ms.length∧(∀j,j≠k→t.getD j []=ms.getD j [])∧(t.getD k []).length=T.length∧∀r∈t.getD k [],r=zv w):=by
 refine qQ (S:=F486_3_S (k:Int)) (fun s=>((T.length:Int) - s.2).toNat) (fun s=>∃i:Nat,s.2=(i:Int)∧i≤T.length∧s.1.length=ms.length∧(∀j,j≠k→s.1.getD j []=ms.getD j [])∧(s.1.getD k []).length=T.length∧(∀a,a < i→(s.1.getD k []).getD a []=zv w)∧∀a,i≤a→(s.1.getD k []).getD a []=T.getD a []) _ ⟨0,rfl,vD _,rfl,fun _ _=> rfl,by rw[hT],fun a ha=> absurd ha (yH _),fun a _=> by rw[hT]⟩ ?_;rintro⟨s,j⟩ ⟨i,e,hi,h1,h2,h3,h4,h5⟩;simp only at e h1 h2 h3 h4 h5;subst e;unfold F486_3_S;simp only;rw[qh (show k < s.length by omega) [],ob];by_cases c:i < T.length
 ·left
  have hrow:((s.getD k []).getD i []).length=w:=by
   rw[h5 i (wE _)]; exact hr _ (qV c [])
  rw[if_pos (by omega),qh (show i < (s.getD k []).length by omega) [],ob,mkL_ok w (by omega) (by omega) (by omega),ob,zg (show i < (s.getD k []).length by omega),ob,zg (show k < s.length by omega),ob,ql (by omega) (by omega),ob];have ek:(s.set k ((s.getD k []).set i (List.replicate w 0))).getD k []=(s.getD k []).set i (List.replicate w 0):=by rw[getD_setF (by omega),if_pos rfl]
  refine⟨_,rfl,⟨i+1,by simp,by omega,by simp[h1],fun j hj=>?_,by simp only; rw[ek,vW]; exact h3,fun a ha=>?_,fun a ha=>?_⟩,by simp only; omega⟩
  ·simp only
   rw[getD_setF (by omega),if_neg hj]; exact h2 j hj
  ·simp only
   rw[ek,getD_setF (by omega)];by_cases q:a=i
   ·rw[if_pos q]; rfl
   ·rw[if_neg q]; exact h4 a (by omega)
  ·simp only
   rw[ek,getD_setF (by omega),if_neg (by omega)]; exact h5 a (by omega)
 ·right
  rw[if_neg (by omega)];refine⟨_,rfl,h1,h2,h3,fun r hr'=>?_⟩;obtain⟨a,ha,rfl⟩:=wK hr';have:=h4 a (by omega)
  rwa[gD,gB ha,yL]at this
theorem zero_maps{z:qa}(hz:qS z):∃ms,qA F486_2_S (z.M,0)=some ms∧qS ⟨z.P,z.D,ms⟩:=by
 have hpr:=hz.p.range;have aM:0 < z.P:=by omega
 have hml:=hz.ml;have hdl:=hz.dl;obtain⟨ms,g1,g2,g3⟩:∃t,qA F486_2_S (z.M,0)=some t∧(t.length=z.M.length∧∀k,k < z.M.length→(t.getD k []).length=(z.M.getD k []).length∧∀r∈t.getD k [],r=zv (dc z k)):=by
  refine qQ (S:=F486_2_S) (fun s=>((z.M.length:Int) - s.2).toNat) (fun s=>∃i:Nat,s.2=(i:Int)∧i≤z.M.length∧s.1.length=z.M.length∧(∀k,k < i→(s.1.getD k []).length=(z.M.getD k []).length∧∀r∈s.1.getD k [],r=zv (dc z k))∧∀k,i≤k→s.1.getD k []=z.M.getD k []) _ ⟨0,rfl,vD _,rfl,fun k hk=> absurd hk (yH _),fun _ _=> rfl⟩ ?_;rintro⟨s,j⟩ ⟨i,e,hi,h1,h2,h3⟩;simp only at e h1 h2 h3;subst e;unfold F486_2_S;simp only;by_cases c:i < z.M.length
  ·left
   have T:=js hz (k:=i) (by omega);have rL:=qW hz (i+1);have tO:=qW hz i;obtain⟨t,t1,t2,t3,t4,t5⟩:=zero_rows (T:=z.M.getD i []) (k:=i) (w:=dc z i) (ms:=s) (by omega) (h3 i (wE _)) (by rw[T.len]; omega) (by omega) (fun r hr=>(T.rows r hr).len);rw[if_pos (by omega),t1,ob,ql (by omega) (by omega),ob];refine⟨_,rfl,⟨i+1,by simp,by omega,by simp only; omega,fun k hk=>?_,fun k hk=>?_⟩,by simp only; omega⟩
   ·simp only
    by_cases q:k=i
    ·subst q; exact⟨t4,t5⟩
    ·rw[t3 k q]; exact h2 k (by omega)
   ·simp only
    rw[t3 k (by omega)]; exact h3 k (by omega)
  ·right
   rw[if_neg (by omega)];exact⟨_,rfl,h1,fun k hk=> h2 k (by omega)⟩
 refine⟨ms,g1,⟨⟨hz.p,hz.dl,by simp only; omega,hz.dims⟩,fun k hk=>?_,fun k h0 hk row hrow v hv=>?_⟩⟩
 ·simp only at hk
  obtain⟨a,b⟩:=g3 k (by omega);have T:=hz.tab k (by omega);have hd:=hz.dims _ (qV (show k < z.D.length by omega) 0);unfold jC at T ⊢;simp only;refine⟨by rw[a]; exact T.1,fun r hr=>?_⟩;rw[b r hr];refine⟨by rw[show(zv (dc z k)).length=dc z k by simp[zv]]; unfold dc; omega,fun v hv=>?_⟩;have:=(List.mem_replicate.1 hv).2;omega
 ·simp only at hk hrow hv
  obtain⟨-,b⟩:=g3 k (by omega);obtain⟨a',b'⟩:=g3 (k - 1) (by omega);rw[b row hrow]at hv;have tO:=qW hz (k - 1);have hdk:=qW hz k;have T:=js hz (k:=k - 1) (by omega);rw[show k - 1+1=k by omega]at T;have L:Lin z.P (dc z k) (dc z (k - 1)) fun u=> lin z.P (dc z (k - 1)) u (ms.getD (k - 1) []):=xE hz.p (by rw[a',T.len]) (fun r hr=> by rw[b' r hr]; exact zj aM _) (by omega) (by omega);have e:lin z.P (dc z (k - 1)) (zv (dc z k)) (ms.getD (k - 1) [])=zv (dc z (k - 1)):=L.zero aM;have hv:v∈lin z.P (dc z (k - 1)) (zv (dc z k)) (ms.getD (k - 1) []):=hv;rw[e]at hv;exact(List.mem_replicate.1 hv).2
theorem pair_run{s:qm}(hs:zI s):∃x y s',F486 s=some ⟨⟨x,y⟩,s'⟩∧zI s'∧PairC x y:=by
 obtain⟨x,s1,e1,k1,vx⟩:=draw_valid hs;have hdl:=vx.dl;unfold F486;rw[e1,ob];simp only;have L:∃t,qA (F486_1_S x) ((s1,[]),0)=some t∧(zI t.1∧t.2.length=x.D.length∧∀d∈t.2,0≤d∧d≤8):=by
  refine qQ (S:=F486_1_S x) (fun s=>((x.D.length:Int) - s.2).toNat) (fun s=>∃i:Nat,s.2=(i:Int)∧i≤x.D.length∧zI s.1.1∧s.1.2.length=i∧∀d∈s.1.2,0≤d∧d≤8) _ ⟨0,rfl,vD _,k1,rfl,fun d hd=> nomatch hd⟩ ?_;rintro⟨⟨q,o⟩,j⟩ ⟨i,e,hi,h1,h2,h3⟩;simp only at e h1 h2 h3;subst e;unfold F486_1_S;simp only;by_cases c:i < x.D.length
  ·left
   obtain⟨v,q1,f1,f2,f3⟩:=pick_ok h1 (l:=[0,1,1,2,3]) (by simp) (by simp);have hv:0≤v∧v≤8:=by
    simp only[vA,yW,or_false]at f3;omega
   rw[if_pos (by omega),f1,ob];simp only;rw[qU (by simp; omega) (by simp; omega),ob,ql (by omega) (by omega),ob];refine⟨_,rfl,⟨i+1,by simp,by omega,f2,by simp[h2],fun d hd=>?_⟩,by simp only; omega⟩;rcases wN.1 hd with hd|hd
   ·exact h3 d hd
   ·rw[List.mem_singleton.1 hd]; exact hv
  ·right
   rw[if_neg (by omega)];exact⟨_,rfl,h1,by simp only; omega,h3⟩
 obtain⟨⟨q,d⟩,g1,g2,g3,g4⟩:=L;simp only at g2 g3 g4;rw[g1,ob];simp only;obtain⟨y,s2,e2,k2,j1,j2,j3,j4⟩:=drawOf_valid g2 vx.p (D:=d) (by omega) g4;have vy:=drawn_valid j1 j2;rw[e2,ob];simp only;obtain⟨k,s3,e3,k3, -⟩:=jc k2 3;rw[e3,ob];simp only;have hP:PairC x y:=⟨vx,vy,j3,by rw[j4,g3]⟩;by_cases c0:k=0
 ·rw[if_pos c0]
  exact⟨x,x,s3,rfl,k3,vx,vx,rfl,rfl⟩
 rw[if_neg c0];by_cases c1:k=1
 ·obtain⟨ms,m1,m2⟩:=zero_maps vy
  rw[if_pos c1,F55_eq hP.sy,ob,m1,ob];exact⟨x,_,s3,rfl,k3,vx,m2,j3,hP.l⟩
 ·rw[if_neg c1]
  exact⟨x,y,s3,rfl,k3,hP⟩
theorem map_run{x y:qa}(P:PairC x y){s:qm}(hs:zI s):∃f s',F488 s x y=some ⟨f,s'⟩∧zI s'∧FamS x.P x.D.length (dc x) (dc y) f:=by
 have hpr:=P.vx.p.range;have hdl:=P.vx.dl;obtain⟨h,s1,e1,k1,H⟩:=random_run P (s:=1) (by omega) hs;obtain⟨e,e2,E⟩:=edge_run P H.hom;obtain⟨r,t1⟩:=text_run P.vx;obtain⟨r',t2⟩:=text_run P.vy;have e1:F487 s x y 1=some ⟨h,s1⟩:=e1;unfold F488;rw[e1,ob];simp only;rw[e2,ob,t1,ob,t2,ob];simp only;by_cases c:(dT x.P x.D x.D.length++r==dT y.P y.D y.D.length++r')=true
 ·have hd:=text_same P.vx P.vy P.l t1 t2 (by simpa using c)
  obtain⟨a,s2,a1,k2, -⟩:=jc k1 4;rw[if_pos c,a1,ob];simp only;by_cases c2:0 < a
  ·obtain⟨i,i1,I⟩:=ident_run P.vx
   obtain⟨b,s3,b1,k3,b2,b3, -⟩:=jc k2 x.P;have b3:=b3 (by omega);have I':FamS x.P x.D.length (dc x) (dc y) i:=⟨I.fl,fun n hn=> by rw[hd n hn]; exact I.t n hn⟩;rw[if_pos c2,i1,ob];simp only;rw[b1,ob];simp only;rw[F490_eq P.vx.p (by omega) (by omega) (P.le 0) E I',ob];exact⟨_,s3,rfl,k3,sum_fs P.vx.p E I'⟩
  ·rw[if_neg c2]
   exact⟨e,s2,rfl,k2,E⟩
 ·rw[if_neg c]
  exact⟨e,s1,rfl,k1,E⟩
theorem ishom_draw{code:List U8}(h:CodeOK code):∃x y f g k,F457 code=some ⟨x,y,f,g,k⟩∧PairC x y∧zS f∧zS g∧zS k:=by
 obtain⟨s,e0,k0⟩:=from_ok h.l h.b;obtain⟨x,y,s1,e1,k1,P⟩:=pair_run k0;have hdl:=P.vx.dl;have hpr:=P.vx.p.range;obtain⟨r,s2,e2,k2,H⟩:=random_run P (s:=1) (by omega) k1;obtain⟨f,s3,e3,k3,F⟩:=map_run P k2;obtain⟨e,e4,E⟩:=edge_run P H.hom;have e2:F487 s1 x y 1=some ⟨r,s2⟩:=e2;have D:=sum_fs (k:= -1) P.vx.p F E;have sF:=jm (by omega) (P.le 0) F;have sD:=jm (by omega) (P.le 0) D;have sH:=jm (by omega) (P.le 1) H;obtain⟨a,s4,e5,k4, -⟩:=jc k3 8;unfold F457;rw[e0,ob,e1,ob];simp only;rw[e2,ob];simp only;rw[e3,ob];simp only;rw[e4,ob,F490_eq P.vx.p (by decide) (by omega) (P.le 0) F E,ob,e5,ob];simp only;by_cases c0:a=0
 ·obtain⟨r2,s5,e6,k5,H2⟩:=random_run P (s:=1) (by omega) k4
  have e6:F487 s4 x y 1=some ⟨r2,s5⟩:=e6;rw[if_pos c0,e6,ob];exact⟨_,_,_,_,_,rfl,P,sF,sD,jm (by omega) (P.le 1) H2⟩
 rw[if_neg c0];by_cases c1:a=1
 ·obtain⟨r2,s5,e6,k5,H2⟩:=random_run P (s:=0) (by omega) k4
  have e6:F487 s4 x y 0=some ⟨r2,s5⟩:=e6;rw[if_pos c1,e6,ob];exact⟨_,_,_,_,_,rfl,P,sF,jm (by omega) (P.le 0) H2,sH⟩
 rw[if_neg c1];by_cases c2:a=2
 ·have hrl:=H.fl
  rw[if_pos c2,show slI r 1 (r.length:Int)=some (r.drop 1) by
   unfold slI;rw[if_pos (by omega)];simp,ob]
  refine⟨_,_,_,_,_,rfl,P,sF,sD,⟨by rw[yN]; have:=sH.m; omega,fun m hm=> sH.r m (vR hm)⟩⟩
 ·rw[if_neg c2]
  exact⟨_,_,_,_,_,rfl,P,sF,sD,sH⟩
theorem are_draw{code:List U8}(h:CodeOK code):∃x y f g,F460 code=some ⟨x,y,f,g⟩∧PairC x y∧zS f∧zS g:=by
 obtain⟨s,e0,k0⟩:=from_ok h.l h.b;obtain⟨x,y,f,g,k,e1,P,sf,sg,sk⟩:=ishom_draw h;have hdl:=P.vx.dl;obtain⟨a,s1,e2,k1, -⟩:=jc k0 3;unfold F460;rw[e0,ob,e1,ob];simp only;rw[e2,ob];simp only;by_cases c:a=0
 ·obtain⟨m,s2,e3,k2,M⟩:=map_run P k1
  rw[if_pos c,e3,ob];exact⟨_,_,_,_,rfl,P,sf,jm (by omega) (P.le 0) M⟩
 ·rw[if_neg c]
  exact⟨_,_,_,_,rfl,P,sf,sg⟩
theorem pair_zero{x y:qa}{l:List T3s}(hx:qJ x)(hy:qJ y)(h:F244 x y l=some 0):F305 [x,y]=some 0:=by
 obtain⟨c, -,c2, -⟩:=pair_same hx hy;by_cases h0:c=0
 ·rw[c2,h0]
 ·unfold F244 F274 at h
  rw[c2,ob,if_neg h0,ob,if_neg h0]at h;exact absurd (wA h) h0
theorem ind_run{x y:qa}{f:T3s}(F:Fam x y f)(C:ChainP x y f)(hp:F305 [x,y]=some 0){n:Nat}(hn:n < x.D.length){r:Int}(hr:F492 x y f (n:Int)=some r):F463 x y f (n:Int)=some ⟨r,0⟩:=by
 have hP:FamP x y f:=⟨by rw[F.fl],fun k hk=> by
  have T:=F.t k (by rw[←F.fl]; exact hk);refine⟨by rw[T.len],fun q hq=>?_⟩;have v:=T.rows q hq;refine⟨by rw[v.len],fun a ha=>?_⟩;obtain⟨j,hj,rfl⟩:=wK ha;have:=v.rng j (by rw[←v.len]; exact hj)
  rwa[qP hj]at this⟩
 obtain⟨b,d1,d2⟩:=F313_tells F.sx F.sy F.sf F.vx F.vy F.pp F.l;have:b=true:=d2.2 hP;subst this;have tR:F306 f x y=some (!true):=by unfold F306; rw[d1,ob]
 have mo:F274 x y [f]=some 0:=by
  unfold F274;rw[hp,ob,if_pos rfl,F276_one (g:=fun z=> F306 z x y) tR,ob];rfl
 obtain⟨b,e1,e2⟩:=F308_tells F;have:b=true:=e2.2 C;subst this;have hdl:=F.vx.dl;unfold F463;rw[mo,ob,if_pos rfl,ji F.sx.d,ob,F56_eq,ob,if_pos (by simp; omega),e1,ob,if_pos rfl,hr,ob]
theorem ranks_law{x y:qa}{f g:T3s}(F:Fam x y f)(G:Fam x y g)(CF:ChainP x y f)(CG:ChainP x y g)(hp:F305 [x,y]=some 0)(A:AreP x y f g):forR 0 (x.D.length:Int) (F502_1_B x.P x.D x.M y.P y.D y.M f g) (F502_1_D x.P x.D x.M y.P y.D y.M f g) ()=some (.inl ()):=by
 have hdl:=F.vx.dl;obtain⟨t,g1,g2⟩:=qy (B:=F502_1_B x.P x.D x.M y.P y.D y.M f g) (D:=F502_1_D x.P x.D x.M y.P y.D y.M f g) (hi:=(x.D.length:Int)) x.D.length rfl (by omega) (fun _ _=> True) (fun t=> t= .inl ()) (s:=()) trivial (by
  rintro n _ hn -;left;obtain⟨K,B,r,k1,k2,k3,b1,b2,b3,r1,r2,r3⟩:=rank_run F hn;obtain⟨K',B',s,k1',k2',k3',rg,b2',b3',s1,s2,s3⟩:=rank_run G hn;rw[k1]at k1'; cases k1';rw[b1]at rg; cases rg;have e:r=s:=rank_homo F G hn k3 b3 (fun z hz=> A n hn K B k1 b1 z hz) r3 s3;have i1:F463 (⟨x.P,x.D,x.M⟩:qa) ⟨y.P,y.D,y.M⟩ f (n:Int)=some ⟨r,0⟩:=ind_run F CF hp hn r2;have i2:F463 (⟨x.P,x.D,x.M⟩:qa) ⟨y.P,y.D,y.M⟩ g (n:Int)=some ⟨s,0⟩:=ind_run G CG hp hn s2;refine⟨(),?_,trivial⟩;unfold F502_1_B;rw[i1,ob,i2,ob,if_pos rfl,if_pos rfl,if_pos e]) (fun _ _=>⟨_,rfl,rfl⟩)
 rw[g1,g2]
theorem law76{code:List U8}(hl:code.length≤9223372036854775807)(hb:∀b∈code,0≤b.val∧b.val≤255):F502 code=some true:=by
 unfold F502 F140;rw[ob];by_cases cl:4096 < (code.length:Int)
 ·rw[if_pos (by simpa using cl)]
 rw[if_neg (by simpa using cl)];have h:CodeOK code:=⟨by omega,hb⟩;obtain⟨x,y,f,g,k,e1,P,sf,sg,sk⟩:=ishom_draw h;obtain⟨b,c,p1,p2,p3⟩:=hom_full P.sx P.sy sf sg sk;obtain⟨u,v,a,w,e2,Q,sa,sw⟩:=are_draw h;obtain⟨d,e,q1,q2,q0,q3⟩:=are_full Q.sx Q.sy sa sw;have h2:F502_92 u.P u.D u.M v.P v.D v.M a w d e=some true:=by
  unfold F502_92;by_cases c1:e=0
  ·subst c1
   rw[if_pos rfl];by_cases c2:d=true
   ·obtain⟨A,W,CA,CW,I⟩:=q3 rfl
    rw[if_pos c2,ranks_law A W CA CW (pair_zero Q.sx Q.sy q0) (I.1 c2),ob]
   ·rw[if_neg c2]
  ·rw[if_neg c1]
 have h1:F502_91 x.P x.D x.M y.P y.D y.M f g b c u.P u.D u.M v.P v.D v.M a w d e=some true:=by
  unfold F502_91;by_cases c1:c=0
  ·subst c1
   rw[if_pos rfl];by_cases c2:b=true
   ·obtain⟨z,F,G,H,I⟩:=p3 rfl
    obtain⟨b',c',r1,r2,r0,r3⟩:=are_full P.sx P.sy sf sg;rw[z]at r0;have:c'=0:=(wA r0).symm;subst this;have:b'=true:=(r3 rfl).2.2.2.2.2 (hom_are F G H (I c2));subst this;have r1:F461 (⟨x.P,x.D,x.M⟩:qa) ⟨y.P,y.D,y.M⟩ f g=some ⟨true,0⟩:=r1;rw[if_pos c2,r1,ob,if_pos rfl,if_pos rfl];exact h2
   ·rw[if_neg c2]; exact h2
  ·rw[if_neg c1]; exact h2
 rw[e1,ob];dsimp only;rw[p1,ob,p2,ob,if_pos rfl,if_pos (by cases b <;> rfl),e2,ob];dsimp only;rw[q1,ob,q2,ob,if_pos rfl,if_pos (by cases d <;> rfl)];exact h1
theorem law77{code:List U8}(h:LongL LongU code):F502 code=some true:=law76 h.1 h.2
end Rv
