/- The plain law: what the typed functions answer: part 2 -/
import Derived.Test.YtfecoipgcigamaaGreatCmq0
namespace Rv
set_option linter.unusedVariables false
set_option linter.unusedSimpArgs false
set_option maxRecDepth 10000
theorem forI_inv{σ τ:Type}{B:Int→σ→Option (σ⊕τ)}{D:Int→σ→Option τ}(Inv:Nat→σ→Prop)(Q:τ→Prop)(n:Nat):
  ∀ (k i:Nat) (s:σ),i+k=n→Inv i s→(∀i s,i < n→Inv i s→(∃s',B i s=some (.inl s')∧Inv (i+1) s')∨∃t,B i s=some (.inr t)∧Q t)→(∀s,Inv n s→∃t,D n s=some t∧Q t)→∃t,forI B D k i s=some t∧Q t:=by
 intro k;induction k with
 |zero=>
  intro i s hk hI hb hd;have:i=n:=by omega
  subst this;exact hd s hI
 |succ k ih=>
  intro i s hk hI hb hd;simp only[forI];rcases hb i s (by omega) hI with⟨s',h1,h2⟩|⟨t,h1,h2⟩
  ·rw[h1]
   have:=ih (i+1) s' (by omega) h2 hb hd;simpa using this
  ·rw[h1]; exact⟨t,rfl,h2⟩
theorem forR_inv{σ τ:Type}{B:Int→σ→Option (σ⊕τ)}{D:Int→σ→Option τ}{hi:Int}(n:Nat)(hn:hi=n)(hs:n < 4611686018427387904)(Inv:Nat→σ→Prop)(Q:τ→Prop){s:σ}(h0:Inv 0 s)
  (hb:∀ (i:Nat) s,i < n→Inv i s→(∃s',B i s=some (.inl s')∧Inv (i+1) s')∨∃t,B i s=some (.inr t)∧Q t) (hd:∀s,Inv n s→∃t,D n s=some t∧Q t):∃t,forR 0 hi B D s=some t∧Q t:=by
 subst hn;unfold forR;rw[if_pos (by omega)];have e:((n:Int) - 0).toNat=n:=by omega
 rw[e];exact forI_inv Inv Q n n 0 s (by omega) h0 hb hd
theorem forR_from{σ τ:Type}{B:Int→σ→Option (σ⊕τ)}{D:Int→σ→Option τ}{lo hi:Int}(l n:Nat)(hl:lo=l)(hn:hi=n)(hln:l≤n)(hs:n < 4611686018427387904)(Inv:Nat→σ→Prop)(Q:τ→Prop){s:σ}(h0:Inv l s)
  (hb:∀ (i:Nat) s,i < n→Inv i s→(∃s',B i s=some (.inl s')∧Inv (i+1) s')∨∃t,B i s=some (.inr t)∧Q t) (hd:∀s,Inv n s→∃t,D n s=some t∧Q t):∃t,forR lo hi B D s=some t∧Q t:=by
 subst hn; subst hl;unfold forR;rw[if_pos (by omega)];have e:((n:Int) - (l:Int)).toNat=n - l:=by omega
 rw[e];exact forI_inv Inv Q n (n - l) l s (by omega) h0 hb hd
theorem loopW_inv{σ τ:Type}{S:σ→Option (σ⊕τ)}(μ:σ→Nat)(Inv:σ→Prop)(Q:τ→Prop){s:σ}(h0:Inv s)
  (hb:∀s,Inv s→(∃s',S s=some (.inl s')∧Inv s'∧μ s' < μ s)∨∃t,S s=some (.inr t)∧Q t):∃t,loopW S s=some t∧Q t:=by
 suffices∀k s,μ s≤k→Inv s→∃t,loopW S s=some t∧Q t from this _ s (Nat.le_refl _) h0
 intro k;induction k with
 |zero=>
  intro s hk hI;rcases hb s hI with⟨s',h1,h2,h3⟩|⟨t,h1,h2⟩
  ·omega
  ·exact⟨t,loopW_eq.2 (.inr h1),h2⟩
 |succ k ih=>
  intro s hk hI;rcases hb s hI with⟨s',h1,h2,h3⟩|⟨t,h1,h2⟩
  ·obtain⟨t,h4,h5⟩:=ih s' (by omega) h2
   exact⟨t,loopW_eq.2 (.inl ⟨s',h1,h4⟩),h5⟩
  ·exact⟨t,loopW_eq.2 (.inr h1),h2⟩
theorem getI_nat{α:Type}{l:List α}{i:Nat}(h:i < l.length):getI l (i:Int)=some l[i]:=by
 unfold getI;rw[if_pos (by omega)];simp[h]
theorem getI_getD{α:Type}{l:List α}{i:Nat}(h:i < l.length)(d:α):getI l (i:Int)=some (l.getD i d):=by
 rw[getI_nat h]; simp[h]
theorem chk_ok{n:Int}(h0: -9223372036854775808≤n)(h1:n < 9223372036854775808):chk n=some n:=by
 unfold chk; rw[if_pos ⟨h0,h1⟩]
theorem setI_nat{α:Type}{l:List α}{i:Nat}(h:i < l.length)(y:α):setI l (i:Int) y=some (l.set i y):=by
 unfold setI;rw[if_pos (by omega),Int.toNat_natCast]
theorem remI_ok{a b:Int}(h:b≠0):remI a b=some (a.tmod b):=by unfold remI; rw[if_neg h]
theorem mkL_ok{α:Type}{b:Nat}{n:Int}{z:α}(k:Nat)(hn:n=k)(h:k*b≤1099511627776)(h2:k≤1099511627776):mkL b n z=some (List.replicate k z):=by
 subst hn;unfold mkL;rw[if_pos ⟨by omega,by omega,by omega⟩,Int.toNat_natCast]
theorem app_ok{α:Type}{b:Nat}{l l':List α}(h:(l.length+l'.length)*b≤1099511627776)(h2:l.length+l'.length≤1099511627776):app b l l'=some (l++l'):=by
 unfold app; rw[if_pos ⟨h,h2⟩]
def Tells(o:Option Bool)(P:Prop):Prop:=∃b,o=some b∧(b=true↔P)
theorem Tells.of_true{o:Option Bool}{P:Prop}(h:o=some true)(p:P):Tells o P:=⟨true,h,by simp[p]⟩
theorem Tells.of_false{o:Option Bool}{P:Prop}(h:o=some false)(p:¬P):Tells o P:=⟨false,h,by simp[p]⟩
theorem Tells.iff{o:Option Bool}{P Q:Prop}(h:Tells o P)(e:P↔Q):Tells o Q:=by
 obtain⟨b,h1,h2⟩:=h; exact⟨b,h1,h2.trans e⟩
theorem Tells.same{o o':Option Bool}{P:Prop}(h:Tells o P)(h':Tells o' P):∃b,o=some b∧o'=some b∧(b=true↔P):=by
 obtain⟨b,h1,h2⟩:=h;obtain⟨b',h3,h4⟩:=h';have:b=b':=by rw[Bool.eq_iff_iff]; exact h2.trans h4.symm
 exact⟨b,h1,by rw[this]; exact h3,h2⟩
theorem Tells.case{o:Option Bool}{P:Prop}(h:Tells o P):(o=some true∧P)∨(o=some false∧¬P):=by
 obtain⟨b,h1,h2⟩:=h;cases b with
 |true=> exact .inl ⟨h1,h2.1 rfl⟩
 |false=> exact .inr ⟨h1,fun p=> by have:=h2.2 p; cases this⟩
def IsP(p:Int):Prop:=p=2∨p=3∨p=5∨p=7
theorem IsP.range{p:Int}(h:IsP p):2≤p∧p≤7:=by unfold IsP at h; omega
def RowOK(p w:Int)(row:List Int):Prop:=(row.length:Int)=w∧∀x∈row,0≤x∧x < p
def TableOK(p c w:Int)(m:List (List Int)):Prop:=(m.length:Int)=c∧∀row∈m,RowOK p w row
theorem F54_eq(n lo hi:Int):F54 n lo hi=some (decide (lo≤n∧n≤hi)):=by
 unfold F54; by_cases h:lo≤n <;> simp[h]
theorem F56_eq(n lo hi:Int):F56 n lo hi=some (decide (lo≤n∧n≤hi)):=by
 unfold F56; by_cases h:lo≤n <;> simp[h]
theorem F78_tells(p:Int):Tells (F78 p) (IsP p):=by
 unfold F78 IsP;split
 ·exact .of_true rfl (by omega)
 split
 ·exact .of_true rfl (by omega)
 split
 ·exact .of_true rfl (by omega)
 ·exact⟨_,rfl,by simp; omega⟩
theorem F67_tells(p:Int):Tells (F67 p) (IsP p):=by
 unfold F67 IsP;split
 ·exact .of_true rfl (by omega)
 split
 ·exact .of_true rfl (by omega)
 split
 ·exact .of_true rfl (by omega)
 ·exact⟨_,rfl,by simp; omega⟩
theorem F79_2{p w:Int}{m:List (List Int)}(hp:2≤p∧p≤7){i:Nat}(hi:i < m.length)(hs:m[i].length≤1099511627776):
  ∃t,loopW (F79_2_S p m w i) 0=some t∧((t= .inl ()∧∀x∈m[i],0≤x∧x < p)∨(t= .inr false∧¬∀x∈m[i],0≤x∧x < p)):=by
 refine loopW_inv (fun j:Int=>(m[i].length - j).toNat) (fun j=>∃n:Nat,j=n∧n≤m[i].length∧∀k (hk:k < n) (h2:k < m[i].length),0≤m[i][k]∧m[i][k] < p) _ ⟨0,rfl,by omega,fun k hk=> by omega⟩ ?_;rintro _ ⟨n,rfl,hn,hall⟩;unfold F79_2_S;simp only[getI_nat hi,ob];by_cases hlt:(n:Int) < m[i].length
 ·have hnl:n < m[i].length:=by omega
  simp only[if_pos hlt,getI_nat hnl,ob,chk_ok (show(-9223372036854775808:Int)≤p - 1 by omega) (show p - 1 < 9223372036854775808 by omega),F54_eq];by_cases hx:0≤m[i][n]∧m[i][n]≤p - 1
  ·left
   refine⟨n+1,?_,⟨n+1,rfl,hnl,fun k hk h2=>?_⟩,by omega⟩
   ·simp only[hx,and_self,decide_true,if_true,chk_ok (show(-9223372036854775808:Int)≤(n:Int)+1 by omega) (show(n:Int)+1 < 9223372036854775808 by omega),ob]
   ·by_cases e:k=n
    ·subst e; omega
    ·exact hall k (by omega) h2
  ·right
   refine⟨.inr false,?_,.inr ⟨rfl,fun ha=> hx ?_⟩⟩
   ·simp[hx]
   ·have:=ha _ (List.getElem_mem hnl); omega
 ·right
  refine⟨.inl (),by simp only[if_neg hlt],.inl ⟨rfl,fun x hx=>?_⟩⟩;obtain⟨k,hk,rfl⟩:=List.getElem_of_mem hx;exact hall k (by omega) hk
theorem F79_tells{p c w:Int}{m:List (List Int)}(hp:2≤p∧p≤7)(hm:m.length≤1099511627776)(hs:∀r∈m,r.length≤1099511627776):Tells (F79 p m c w) (TableOK p c w m):=by
 unfold F79;by_cases hc:(m.length:Int)=c
 case neg=> rw[if_neg hc]; exact .of_false rfl fun h=> hc h.1
 rw[if_pos hc];obtain⟨t,h1,h2⟩:=forR_inv (B:=F79_1_B p m w) (D:=F79_1_D p m w) (hi:=m.length) m.length rfl (by omega) (fun i _=>∀k (hk:k < i) (h2:k < m.length),RowOK p w m[k]) (fun t=>(t= .inl ()∧∀r∈m,RowOK p w r)∨(t= .inr false∧¬∀r∈m,RowOK p w r)) (s:=()) (fun k hk=> by omega) (fun i _ hi hI=> by
  unfold F79_1_B;simp only[getI_nat hi,ob];by_cases hw:(m[i].length:Int)=w
  ·rw[if_pos hw]
   obtain⟨t,h1,h2⟩:=F79_2 (w:=w) hp hi (hs _ (List.getElem_mem hi));rw[h1];rcases h2 with⟨rfl,h2⟩|⟨rfl,h2⟩
   ·left
    refine⟨(),rfl,fun k hk h3=>?_⟩;by_cases e:k=i
    ·subst e; exact⟨hw,h2⟩
    ·exact hI k (by omega) h3
   ·right
    exact⟨_,rfl,.inr ⟨rfl,fun ha=> h2 (ha _ (List.getElem_mem hi)).2⟩⟩
  ·rw[if_neg hw]
   right;exact⟨_,rfl,.inr ⟨rfl,fun ha=> hw (ha _ (List.getElem_mem hi)).1⟩⟩) (fun _ hI=>⟨.inl (),rfl,.inl ⟨rfl,fun r hr=> by
    obtain⟨k,hk,rfl⟩:=List.getElem_of_mem hr;exact hI k hk hk⟩⟩)
 rw[h1];rcases h2 with⟨rfl,h2⟩|⟨rfl,h2⟩
 ·exact .of_true rfl ⟨hc,h2⟩
 ·exact .of_false rfl fun h=> h2 h.2
def addRow(p x:Int)(out row:List Int):List Int:=List.zipWith (fun o y=>(o+x*y).tmod p) out row
def linN(p:Int)(n:Nat)(v:List Int)(m:List (List Int)):Nat→List Int
 |0=> List.replicate n 0
 |i+1=> addRow p (v.getD i 0) (linN p n v m i) (m.getD i [])
def lin(p:Int)(n:Nat)(v:List Int)(m:List (List Int)):List Int:=linN p n v m v.length
structure LinOK (p:Int) (n:Nat) (v:List Int) (m:List (List Int)):Prop where
 hp:2≤p∧p≤7
 hv:∀x∈v,0≤x∧x < p
 hl:v.length≤m.length
 hr:∀l∈m,l.length=n∧∀y∈l,0≤y∧y < p
 hn:n≤1048576
 hvl:v.length≤1048576
theorem small_mul{p x y o:Int}(hp:2≤p∧p≤7)(hx:0≤x∧x < p)(hy:0≤y∧y < p)(ho:0≤o∧o < p):
  chk (x*y)=some (x*y)∧chk (o+x*y)=some (o+x*y)∧0≤(o+x*y).tmod p∧(o+x*y).tmod p < p:=by
 have h1:0≤x*y:=Int.mul_nonneg hx.1 hy.1;have h2:x*y≤6*6:=Int.mul_le_mul (by omega) (by omega) hy.1 (by omega);exact⟨chk_ok (by omega) (by omega),chk_ok (by omega) (by omega),Int.tmod_nonneg _ (by omega),Int.tmod_lt_of_pos _ (by omega)⟩
theorem addRow_len{p x:Int}{out row:List Int}(h:row.length=out.length):(addRow p x out row).length=out.length:=by simp[addRow,h]
theorem addRow_ok{p x:Int}(hp:2≤p∧p≤7)(hx:0≤x∧x < p){out row:List Int}(ho:∀o∈out,0≤o∧o < p)(hy:∀y∈row,0≤y∧y < p):∀o∈addRow p x out row,0≤o∧o < p:=by
 intro o hm;unfold addRow at hm;obtain⟨i,hi,rfl⟩:=List.getElem_of_mem hm;simp at hi ⊢;exact(small_mul hp hx (hy _ (List.getElem_mem (by omega))) (ho _ (List.getElem_mem (by omega)))).2.2
theorem linN_ok{p:Int}{n:Nat}{v:List Int}{m:List (List Int)}(H:LinOK p n v m):∀i,i≤v.length→(linN p n v m i).length=n∧∀o∈linN p n v m i,0≤o∧o < p:=by
 intro i;induction i with
 |zero=> intro _; refine⟨by simp[linN],fun o ho=>?_⟩; simp[linN]at ho; obtain⟨_,rfl⟩:=ho; have:=H.hp; omega
 |succ i ih=>
  intro hi;obtain⟨h1,h2⟩:=ih (by omega);have e1:v.getD i 0=v[i]:=by simp[show i < v.length by omega]
  have hm:i < m.length:=by have:=H.hl; omega
  have e2:m.getD i []=m[i]:=by simp[hm]
  have hr:=H.hr _ (List.getElem_mem hm);simp only[linN,e1,e2];exact⟨by rw[addRow_len (by rw[hr.1,h1]),h1],addRow_ok H.hp (H.hv _ (List.getElem_mem _)) h2 hr.2⟩
def upTo(p x:Int)(out row:List Int)(k:Nat):List Int:=(addRow p x out row).take k++out.drop k
theorem upTo_len{p x:Int}{out row:List Int}(h:row.length=out.length)(k:Nat)(hk:k≤out.length):(upTo p x out row k).length=out.length:=by
 simp[upTo,addRow_len h]; omega
theorem upTo_at{p x:Int}{out row:List Int}(h:row.length=out.length){k:Nat}(hk:k < out.length)(h2:k < (upTo p x out row k).length):(upTo p x out row k)[k]=out[k]:=by
 have e:(upTo p x out row k)[k]? =some out[k]:=by
  unfold upTo;rw[List.getElem?_append_right (by simp[addRow_len h]; omega)];simp[addRow_len h,Nat.min_eq_left (Nat.le_of_lt hk),hk]
 rw[List.getElem?_eq_getElem h2]at e;exact Option.some.inj e
theorem upTo_set{p x:Int}{out row:List Int}(h:row.length=out.length){k:Nat}(hk:k < out.length):
  (upTo p x out row k).set k ((out[k]+x*(row[k]'(by omega))).tmod p)=upTo p x out row (k+1):=by
 have hl:=addRow_len (p:=p) (x:=x) h;unfold upTo;rw[List.set_append_right _ _ (by simp[hl]; omega),List.take_succ_eq_append_getElem (by omega:k < (addRow p x out row).length)];have e1:((addRow p x out row).take k).length=k:=by simp[hl]; omega
 rw[e1,Nat.sub_self];simp[addRow];rw[List.drop_eq_getElem_cons hk];rfl
theorem upTo_zero{p x:Int}{out row:List Int}:upTo p x out row 0=out:=by simp[upTo]
theorem upTo_all{p x:Int}{out row:List Int}(h:row.length=out.length):upTo p x out row out.length=addRow p x out row:=by
 have hl:=addRow_len (p:=p) (x:=x) h;unfold upTo;rw[List.take_of_length_le (by omega),List.drop_of_length_le (by omega),List.append_nil]
theorem F80_eq{p:Int}{n:Nat}{v:List Int}{m:List (List Int)}(H:LinOK p n v m){w:Int}(hw:w=n):F80 p m v w=some (lin p n v m):=by
 have hn:=H.hn;have hvl:=H.hvl;have hlm:=H.hl;unfold F80;rw[mkL_ok n hw (by omega) (by omega),ob];obtain⟨t,h1,rfl⟩:=forR_inv (B:=F80_1_B p m v) (D:=F80_1_D p m v) (hi:=v.length) v.length rfl (by omega) (fun i s=> s=linN p n v m i) (fun t=> t=lin p n v m) (s:=List.replicate n 0) rfl (fun i s hi hI=> by
  subst hI;left;obtain⟨q1,q2⟩:=linN_ok H i (by omega);have hm:i < m.length:=by omega
  obtain⟨r1,r2⟩:=H.hr _ (List.getElem_mem hm);have hx:=H.hv _ (List.getElem_mem hi);have e1:v.getD i 0=v[i]:=by simp[hi]
  have e2:m.getD i []=m[i]:=by simp[hm]
  refine⟨_,?_,rfl⟩;unfold F80_1_B;have hlen:m[i].length=(linN p n v m i).length:=by omega
  obtain⟨t,h1,rfl⟩:=loopW_inv (S:=F80_2_S p m v i) (fun s=>(n - s.2).toNat) (fun s=>∃k:Nat,k≤n∧s=(upTo p v[i] (linN p n v m i) m[i] k,(k:Int))) (fun t=> t=linN p n v m (i+1)) (s:=(linN p n v m i,0)) ⟨0,by omega,by rw[upTo_zero]; rfl⟩ (by
   rintro _ ⟨k,hk,rfl⟩;unfold F80_2_S;have hul:=upTo_len (p:=p) (x:=v[i]) hlen k (by omega);simp only;by_cases hlt:(k:Int) < (upTo p v[i] (linN p n v m i) m[i] k).length
   ·rw[if_pos hlt]
    have hk1:k < (upTo p v[i] (linN p n v m i) m[i] k).length:=by omega
    have hk2:k < (linN p n v m i).length:=by omega
    have hk3:k < m[i].length:=by omega
    obtain⟨s1,s2,s3,s4⟩:=small_mul H.hp hx (r2 _ (List.getElem_mem hk3)) (q2 _ (List.getElem_mem hk2));have hp0:p≠0:=by have:=H.hp; omega
    left;refine⟨(upTo p v[i] (linN p n v m i) m[i] (k+1),((k+1:Nat):Int)),?_,⟨k+1,by omega,rfl⟩,by simp only; omega⟩;simp only[getI_nat hk1,upTo_at hlen hk2 hk1,getI_nat hi,getI_nat hm,getI_nat hk3,ob,s1,s2,remI_ok hp0,setI_nat hk1,upTo_set hlen hk2,chk_ok (show(-9223372036854775808:Int)≤(k:Int)+1 by omega) (show(k:Int)+1 < 9223372036854775808 by omega)];rfl
   ·rw[if_neg hlt]
    right;have hkn:k=(linN p n v m i).length:=by omega
    refine⟨_,rfl,?_⟩;rw[hkn,upTo_all hlen];simp only[linN,e1,e2])
  rw[h1];rfl) (fun s hI=>⟨_,rfl,hI⟩)
 rw[h1];rfl
theorem F119_2_eq{p:Int}{n:Nat}{v:List Int}{m:List (List Int)}(H:LinOK p n v m){i:Nat}(hi:i < v.length)(hm:i < m.length):
  forR 0 (m[i].length:Int) (F119_2_B p v m i v[i] m[i]) (F119_2_D p v m i v[i] m[i]) (linN p n v m i)=some (linN p n v m (i+1)):=by
 have hn:=H.hn;obtain⟨q1,q2⟩:=linN_ok H i (by omega);obtain⟨r1,r2⟩:=H.hr _ (List.getElem_mem hm);have hx:=H.hv _ (List.getElem_mem hi);have e1:v.getD i 0=v[i]:=by simp[hi]
 have e2:m.getD i []=m[i]:=by simp[hm]
 have hlen:m[i].length=(linN p n v m i).length:=by omega
 have hp0:p≠0:=by have:=H.hp; omega
 obtain⟨t,h1,rfl⟩:=forR_inv (B:=F119_2_B p v m i v[i] m[i]) (D:=F119_2_D p v m i v[i] m[i]) (hi:=m[i].length) m[i].length rfl (by omega) (fun k s=> s=upTo p v[i] (linN p n v m i) m[i] k) (fun t=> t=linN p n v m (i+1)) (s:=linN p n v m i) upTo_zero.symm (by
  intro k s hk hI;subst hI;left;have hul:=upTo_len (p:=p) (x:=v[i]) hlen k (by omega);have hk1:k < (upTo p v[i] (linN p n v m i) m[i] k).length:=by omega
  have hk2:k < (linN p n v m i).length:=by omega
  obtain⟨s1,s2,s3,s4⟩:=small_mul H.hp hx (r2 _ (List.getElem_mem hk)) (q2 _ (List.getElem_mem hk2));refine⟨_,?_,rfl⟩;unfold F119_2_B;simp only[getI_nat hk,getI_nat hk1,upTo_at hlen hk2 hk1,ob,s1,s2,remI_ok hp0,setI_nat hk1,upTo_set hlen hk2]) (by
  intro s hI;refine⟨s,rfl,?_⟩;rw[hI,hlen,upTo_all hlen];simp only[linN,e1,e2])
 exact h1
theorem F119_1_eq{p:Int}{n:Nat}{v:List Int}{m:List (List Int)}(H:LinOK p n v m)(i:Nat)(hi:i < v.length):F119_1_B p v m (i:Int) (linN p n v m i)=some (.inl (linN p n v m (i+1))):=by
 have hlm:=H.hl;have hm:i < m.length:=by omega
 unfold F119_1_B;rw[getI_nat hi,ob,getI_nat hm,ob,F119_2_eq H hi hm,ob]
theorem F119_eq{p:Int}{n:Nat}{v:List Int}{m:List (List Int)}(H:LinOK p n v m){w:Int}(hw:w=n):F119 p w v m=some (lin p n v m):=by
 have hn:=H.hn;have hvl:=H.hvl;have hs:v.length < 4611686018427387904:=by omega
 unfold F119;rw[mkL_ok n hw (by omega) (by omega),ob];obtain⟨t,h1,rfl⟩:=forR_inv (B:=F119_1_B p v m) (D:=F119_1_D p v m) (hi:=v.length) v.length rfl hs (fun i s=> s=linN p n v m i) (fun t=> t=lin p n v m) (s:=List.replicate n 0) rfl (by
  intro i s hi hI;subst hI;left;exact⟨_,F119_1_eq H i hi,rfl⟩) (fun s hI=>⟨s,by unfold F119_1_D; rfl,hI⟩)
 rw[h1,ob]
theorem F115_eq{l:List Int}{f:Int→Option Bool}(P:Int→Bool)(hl:l.length≤1099511627776)(hf:∀x∈l,f x=some (P x)):∃i:Int,F115 l f=some i∧(0≤i↔∃x∈l,P x=true):=by
 unfold F115;have hs:l.length < 4611686018427387904:=by omega
 obtain⟨t,h1,h2⟩:=forR_inv (B:=F115_1_B l f) (D:=F115_1_D l f) (hi:=l.length) l.length rfl hs (fun i _=>∀k (hk:k < i) (h2:k < l.length),P l[k]=false) (fun t=>(t= .inl ()∧∀x∈l,P x=false)∨∃i:Nat,t= .inr (i:Int)∧∃x∈l,P x=true) (s:=()) (fun k hk=> by omega) (by
  intro i _ hi hI;unfold F115_1_B;rw[getI_nat hi,ob,hf _ (List.getElem_mem hi),ob];cases hp:P l[i]with
  |true=> right; exact⟨_,rfl,.inr ⟨i,rfl,_,List.getElem_mem hi,hp⟩⟩
  |false=>
   left;refine⟨(),rfl,fun k hk h2=>?_⟩;by_cases e:k=i
   ·subst e; exact hp
   ·exact hI k (by omega) h2) (by
  intro _ hI;refine⟨.inl (),rfl,.inl ⟨rfl,fun x hx=>?_⟩⟩;obtain⟨k,hk,rfl⟩:=List.getElem_of_mem hx;exact hI k hk hk)
 rw[h1];rcases h2 with⟨rfl,h2⟩|⟨i,rfl,h2⟩
 ·exact⟨-1,rfl,⟨fun h=> by omega,fun⟨x,hx,hp⟩=> by rw[h2 x hx]at hp; cases hp⟩⟩
 ·exact⟨i,rfl,⟨fun _=> h2,fun _=> Int.natCast_nonneg i⟩⟩
theorem F82_eq{l:List Int}{f:Int→Option Bool}(P:Int→Bool)(hl:l.length≤1099511627776)(hf:∀x∈l,f x=some (P x)):F82 l f=some (l.any P):=by
 obtain⟨i,h1,h2⟩:=F115_eq P hl hf;unfold F82;rw[h1,ob];have:decide (0≤i)=l.any P:=by
  rw[Bool.eq_iff_iff];simp only[decide_eq_true_eq,List.any_eq_true];exact h2
 rw[this]
theorem F128_eq{l:List (List Int)}{f:List Int→Option Bool}(P:List Int→Bool)(hl:l.length≤1099511627776)(hf:∀x∈l,f x=some (P x)):∃i:Int,F128 l f=some i∧(0≤i↔∃x∈l,P x=true):=by
 unfold F128;have hs:l.length < 4611686018427387904:=by omega
 obtain⟨t,h1,h2⟩:=forR_inv (B:=F128_1_B l f) (D:=F128_1_D l f) (hi:=l.length) l.length rfl hs (fun i _=>∀k (hk:k < i) (h2:k < l.length),P l[k]=false) (fun t=>(t= .inl ()∧∀x∈l,P x=false)∨∃i:Nat,t= .inr (i:Int)∧∃x∈l,P x=true) (s:=()) (fun k hk=> by omega) (by
  intro i _ hi hI;unfold F128_1_B;rw[getI_nat hi,ob,hf _ (List.getElem_mem hi),ob];cases hp:P l[i]with
  |true=> right; exact⟨_,rfl,.inr ⟨i,rfl,_,List.getElem_mem hi,hp⟩⟩
  |false=>
   left;refine⟨(),rfl,fun k hk h2=>?_⟩;by_cases e:k=i
   ·subst e; exact hp
   ·exact hI k (by omega) h2) (by
  intro _ hI;refine⟨.inl (),rfl,.inl ⟨rfl,fun x hx=>?_⟩⟩;obtain⟨k,hk,rfl⟩:=List.getElem_of_mem hx;exact hI k hk hk)
 rw[h1];rcases h2 with⟨rfl,h2⟩|⟨i,rfl,h2⟩
 ·exact⟨-1,rfl,⟨fun h=> by omega,fun⟨x,hx,hp⟩=> by rw[h2 x hx]at hp; cases hp⟩⟩
 ·exact⟨i,rfl,⟨fun _=> h2,fun _=> Int.natCast_nonneg i⟩⟩
theorem F117_eq{l:List (List Int)}{f:List Int→Option Bool}(P:List Int→Bool)(hl:l.length≤1099511627776)(hf:∀x∈l,f x=some (P x)):F117 l f=some (l.any P):=by
 obtain⟨i,h1,h2⟩:=F128_eq P hl hf;unfold F117;rw[h1,ob];have:decide (0≤i)=l.any P:=by
  rw[Bool.eq_iff_iff];simp only[decide_eq_true_eq,List.any_eq_true];exact h2
 rw[this]
def rowB(p w:Int)(row:List Int):Bool:=decide ((row.length:Int)=w)&& row.all fun x=> decide (0≤x∧x < p)
theorem rowB_iff{p w:Int}{row:List Int}:rowB p w row=true↔RowOK p w row:=by
 unfold rowB RowOK;simp only[Bool.and_eq_true,decide_eq_true_eq,List.all_eq_true]
theorem F130_eq{p:Int}(hp:2≤p∧p≤7)(x:Int):F130 x p=some (!decide (0≤x∧x < p)):=by
 unfold F130;rw[chk_ok (by omega) (by omega),ob,F56_eq,ob]
 congr 3
 exact propext ⟨fun h=>⟨h.1,by omega⟩,fun h=>⟨h.1,by omega⟩⟩
theorem F129_eq{p w:Int}(hp:2≤p∧p≤7){l:List Int}(hl:l.length≤1099511627776):F129 p w l=some (rowB p w l):=by
 unfold F129 rowB;by_cases h:(l.length:Int)=w
 ·rw[if_pos h,F82_eq (fun x=> !decide (0≤x∧x < p)) hl (fun x _=> F130_eq hp x),ob]
  simp[h,List.not_any_eq_all_not]
 ·rw[if_neg h]; simp[h]
theorem F116_eq{p w:Int}(hp:2≤p∧p≤7){l:List Int}(hl:l.length≤1099511627776):F116 l p w=some (!rowB p w l):=by
 unfold F116; rw[F129_eq hp hl,ob]
theorem F90_eq{p w:Int}(hp:2≤p∧p≤7){m:List (List Int)}(hm:m.length≤1099511627776)(hs:∀r∈m,r.length≤1099511627776):F90 p w m=some (m.all (rowB p w)):=by
 unfold F90;rw[F117_eq (fun r=> !rowB p w r) hm (fun r hr=> F116_eq hp (hs r hr)),ob];simp[List.not_any_eq_all_not]
theorem F90_tells{p w:Int}(hp:2≤p∧p≤7){m:List (List Int)}(hm:m.length≤1099511627776)(hs:∀r∈m,r.length≤1099511627776):Tells (F90 p w m) (∀r∈m,RowOK p w r):=
 ⟨_,F90_eq hp hm hs,by simp only[List.all_eq_true,rowB_iff]⟩
theorem F92_tells{l:List Int}(hl:l.length≤1099511627776):Tells (F92 l) (∀x∈l,x=0):=by
 unfold F92;have h:F82 l (fun x=> F118 x)=some (l.any fun x=> !decide (x=0)):=F82_eq _ hl (fun x _=> rfl);rw[h,ob];exact⟨_,rfl,by simp[List.not_any_eq_all_not]⟩
theorem F81_tells{l:List Int}(hl:l.length≤1099511627776):∃i,F81 l=some i∧(0≤i↔¬∀x∈l,x=0):=by
 unfold F81;have hs:l.length < 4611686018427387904:=by omega
 obtain⟨t,h1,h2⟩:=forR_inv (B:=F81_1_B l) (D:=F81_1_D l) (hi:=l.length) l.length rfl hs (fun i _=>∀k (hk:k < i) (h2:k < l.length),l[k]=0) (fun t=>(t= .inl ()∧∀x∈l,x=0)∨∃i:Nat,t= .inr (i:Int)∧¬∀x∈l,x=0) (s:=()) (fun k hk=> by omega) (by
  intro i _ hi hI;unfold F81_1_B;rw[getI_nat hi,ob];by_cases hp:l[i]=0
  ·rw[if_pos hp]
   left;refine⟨(),rfl,fun k hk h2=>?_⟩;by_cases e:k=i
   ·subst e; exact hp
   ·exact hI k (by omega) h2
  ·rw[if_neg hp]
   right;exact⟨_,rfl,.inr ⟨i,rfl,fun ha=> hp (ha _ (List.getElem_mem hi))⟩⟩) (by
  intro _ hI;refine⟨.inl (),rfl,.inl ⟨rfl,fun x hx=>?_⟩⟩;obtain⟨k,hk,rfl⟩:=List.getElem_of_mem hx;exact hI k hk hk)
 rw[h1];rcases h2 with⟨rfl,h2⟩|⟨i,rfl,h2⟩
 ·exact⟨-1,rfl,⟨fun h=> by omega,fun h=> absurd h2 h⟩⟩
 ·exact⟨i,rfl,⟨fun _=> h2,fun _=> Int.natCast_nonneg i⟩⟩
structure SmallC (x:GComplex):Prop where
 d:x.Dims.length≤1048576
 m:x.Maps.length≤1048576
 r:∀m∈x.Maps,m.length≤1048576∧∀l∈m,l.length≤1048576
structure ShapeC (x:GComplex):Prop where
 p:IsP x.Prime
 dl:1≤x.Dims.length∧x.Dims.length≤6
 ml:x.Maps.length+1=x.Dims.length
 dims:∀d∈x.Dims,0≤d∧d≤8
def TabAt(x:GComplex)(k:Nat):Prop:=TableOK x.Prime (x.Dims.getD (k+1) 0) (x.Dims.getD k 0) (x.Maps.getD k [])
def SqAt(x:GComplex)(k:Nat):Prop:=∀row∈x.Maps.getD k [],∀y∈lin x.Prime (x.Dims.getD (k - 1) 0).toNat row (x.Maps.getD (k - 1) []),y=0
structure ValidC (x:GComplex):Prop extends ShapeC x where
 tab:∀k,k < x.Maps.length→TabAt x k
 sq:∀k,0 < k→k < x.Maps.length→SqAt x k
theorem lin_len{p:Int}{n:Nat}{v:List Int}{m:List (List Int)}(H:LinOK p n v m):(lin p n v m).length=n:=(linN_ok H _ (Nat.le_refl _)).1
theorem linOK_of{x:GComplex}(hs:ShapeC x){k:Nat}(h1:0 < k)(h2:k < x.Maps.length)(t1:TabAt x (k - 1))(t2:TabAt x k){row:List Int}(hr:row∈x.Maps.getD k []):
  LinOK x.Prime (x.Dims.getD (k - 1) 0).toNat row (x.Maps.getD (k - 1) [])∧0≤x.Dims.getD (k - 1) 0∧x.Dims.getD (k - 1) 0≤8:=by
 have hd:∀j,j < x.Dims.length→0≤x.Dims.getD j 0∧x.Dims.getD j 0≤8:=fun j hj=> by
  have:=hs.dims _ (List.getElem_mem hj);simpa[hj]using this
 have hml:=hs.ml;have d1:=hd (k - 1) (by omega);have d2:=hd k (by omega);obtain⟨q1,q2⟩:=t2.2 row hr;refine⟨⟨hs.p.range,q2,?_,fun l hl=>?_,?_,?_⟩,d1⟩
 ·have:=t1.1
  have e:k - 1+1=k:=by omega
  rw[e]at this;omega
 ·obtain⟨r1,r2⟩:=t1.2 l hl
  exact⟨by omega,r2⟩
 ·omega
 ·omega
theorem F86_eq{x:GComplex}(h:x.Dims.length≤1048576):F86 x=some ((x.Dims.length:Int) - 1):=by
 unfold F86; rw[chk_ok (by omega) (by omega),ob]
theorem mapsD{x:GComplex}{k:Nat}(h:k < x.Maps.length):x.Maps.getD k []=x.Maps[k]:=by simp[h]
theorem F39_3_eq{x:GComplex}(hs:ShapeC x){k:Nat}(h2:k < x.Maps.length)(t1:0 < k→TabAt x (k - 1))(t2:TabAt x k)(hsm:SmallC x):
  ∃t,loopW (F39_3_S x (k:Int)) 0=some t∧((t= .inl ()∧(0 < k→SqAt x k))∨(t= .inr false∧0 < k∧¬SqAt x k)):=by
 have hml:=hs.ml;have hdl:=hs.dl;have hk:=(hsm.r _ (List.getElem_mem h2)).1;refine loopW_inv (fun j:Int=>(x.Maps[k].length - j).toNat) (fun j=>∃n:Nat,j=n∧n≤x.Maps[k].length∧(0 < k→∀i (hi:i < n) (h3:i < x.Maps[k].length),∀y∈lin x.Prime (x.Dims.getD (k - 1) 0).toNat x.Maps[k][i] (x.Maps.getD (k - 1) []),y=0)) _ ⟨0,rfl,by omega,fun _ i hi=> by omega⟩ ?_;rintro _ ⟨n,rfl,hn,hall⟩;unfold F39_3_S;rw[getI_nat h2,ob];by_cases hlt:(n:Int) < x.Maps[k].length
 ·rw[if_pos hlt]
  have hnl:n < x.Maps[k].length:=by omega
  by_cases h0:0 < k
  ·rw[if_pos (by omega)]
   obtain⟨H,d0,d8⟩:=linOK_of hs h0 h2 (t1 h0) t2 (row:=x.Maps[k][n]) (by rw[mapsD h2]; exact List.getElem_mem hnl);have e1:((k:Int) - 1)=((k - 1:Nat):Int):=by omega
   rw[chk_ok (by omega) (by omega),ob,e1,getI_getD (show k - 1 < x.Maps.length by omega) [],ob,getI_nat hnl,ob,getI_getD (show k - 1 < x.Dims.length by omega) 0,ob,
    F80_eq H (by omega),ob]
   obtain⟨i,g1,g2⟩:=F81_tells (l:=lin x.Prime (x.Dims.getD (k - 1) 0).toNat x.Maps[k][n] (x.Maps.getD (k - 1) [])) (by rw[lin_len H]; omega);rw[g1,ob];by_cases hz:0≤i
   ·rw[if_pos hz]
    right;refine⟨_,rfl,.inr ⟨rfl,h0,fun ha=> g2.1 hz (ha _ (by rw[mapsD h2]; exact List.getElem_mem hnl))⟩⟩
   ·rw[if_neg hz]
    left;rw[chk_ok (by omega) (by omega),ob];refine⟨_,rfl,⟨n+1,rfl,hnl,fun _ i hi h3=>?_⟩,by omega⟩;by_cases e:i=n
    ·subst e
     exact Classical.byContradiction fun hq=> hz (g2.2 hq)
    ·exact hall h0 i (by omega) h3
  ·rw[if_neg (by omega)]
   right;exact⟨_,rfl,.inl ⟨rfl,fun h=> absurd h h0⟩⟩
 ·rw[if_neg hlt]
  right;refine⟨_,rfl,.inl ⟨rfl,fun h0 row hr=>?_⟩⟩;rw[mapsD h2]at hr;obtain⟨i,hi,rfl⟩:=List.getElem_of_mem hr;exact hall h0 i (by omega) hi
theorem F39_2_eq{x:GComplex}(hs:ShapeC x)(hsm:SmallC x):
  ∃t,forR 0 (x.Maps.length:Int) (F39_2_B x) (F39_2_D x) ()=some t∧((t= .inl ()∧(∀k,k < x.Maps.length→TabAt x k)∧∀k,0 < k→k < x.Maps.length→SqAt x k)∨(t= .inr false∧¬((∀k,k < x.Maps.length→TabAt x k)∧∀k,0 < k→k < x.Maps.length→SqAt x k))):=by
 have hml:=hs.ml;have hm:=hsm.m;have hlen:x.Maps.length < 4611686018427387904:=by omega
 refine forR_inv x.Maps.length rfl hlen (fun i _=>(∀k,k < i→TabAt x k)∧∀k,0 < k→k < i→SqAt x k) _ ⟨fun k hk=> by omega,fun k _ hk=> by omega⟩ ?_ ?_
 ·rintro i _ hi ⟨ht,hq⟩
  unfold F39_2_B;have e2:((i:Int)+1)=((i+1:Nat):Int):=by omega
  have hr:=hsm.r _ (List.getElem_mem hi);rw[getI_nat hi,ob,e2,getI_getD (show i+1 < x.Dims.length by omega) 0,ob,getI_getD (show i < x.Dims.length by omega) 0,ob];have hT:=F79_tells (p:=x.Prime) (c:=x.Dims.getD (i+1) 0) (w:=x.Dims.getD i 0) (m:=x.Maps[i]) hs.p.range (by omega) (fun r h=> by have:=hr.2 r h; omega);rcases hT.case with⟨h1,h2⟩|⟨h1,h2⟩
  ·rw[h1,ob,if_pos rfl]
   have hti:TabAt x i:=by unfold TabAt; rw[mapsD hi]; exact h2
   obtain⟨t,g1,g2⟩:=F39_3_eq hs hi (fun h0=> ht _ (by omega)) hti hsm;rw[g1,ob];rcases g2 with⟨rfl,g2⟩|⟨rfl,g0,g2⟩
   ·left
    refine⟨(),rfl,fun k hk=>?_,fun k h0 hk=>?_⟩
    ·by_cases e:k=i
     ·subst e; exact hti
     ·exact ht k (by omega)
    ·by_cases e:k=i
     ·subst e; exact g2 h0
     ·exact hq k h0 (by omega)
   ·right
    exact⟨_,rfl,.inr ⟨rfl,fun ha=> g2 (ha.2 i g0 hi)⟩⟩
  ·rw[h1,ob,if_neg Bool.false_ne_true]
   right;refine⟨_,rfl,.inr ⟨rfl,fun ha=> h2 ?_⟩⟩;have:=ha.1 i hi;unfold TabAt at this;rw[mapsD hi]at this;exact this
 ·rintro _ ⟨ht,hq⟩
  exact⟨.inl (),rfl,.inl ⟨rfl,ht,hq⟩⟩
theorem F39_1_eq{x:GComplex}(hsm:SmallC x):∃t,forR 0 (x.Dims.length:Int) (F39_1_B x) (F39_1_D x) ()=some t∧((t= .inl ()∧∀d∈x.Dims,0≤d∧d≤8)∨(t= .inr false∧¬∀d∈x.Dims,0≤d∧d≤8)):=by
 have hm:=hsm.d;have hlen:x.Dims.length < 4611686018427387904:=by omega
 refine forR_inv x.Dims.length rfl hlen (fun i _=>∀k (hk:k < i) (h2:k < x.Dims.length),0≤x.Dims[k]∧x.Dims[k]≤8) _ (fun k hk=> by omega) ?_ ?_
 ·rintro i _ hi hI
  unfold F39_1_B;rw[getI_nat hi,ob,F54_eq,ob];by_cases h:0≤x.Dims[i]∧x.Dims[i]≤8
  ·rw[if_pos (by simpa using h)]
   left;refine⟨(),rfl,fun k hk h2=>?_⟩;by_cases e:k=i
   ·subst e; exact h
   ·exact hI k (by omega) h2
  ·rw[if_neg (by simpa using h)]
   right;exact⟨_,rfl,.inr ⟨rfl,fun ha=> h (ha _ (List.getElem_mem hi))⟩⟩
 ·rintro _ hI
  refine⟨.inl (),rfl,.inl ⟨rfl,fun d hd=>?_⟩⟩;obtain⟨k,hk,rfl⟩:=List.getElem_of_mem hd;exact hI k hk hk
theorem F39_tells{x:GComplex}(hsm:SmallC x):Tells (F39 x) (ValidC x):=by
 have hd:=hsm.d;unfold F39;rcases(F78_tells x.Prime).case with⟨h1,hp⟩|⟨h1,hp⟩
 case inr=> rw[h1,ob,if_neg Bool.false_ne_true]; exact .of_false rfl fun h=> hp h.p
 rw[h1,ob,if_pos rfl];by_cases c1:(x.Dims.length:Int) < 1
 ·rw[if_pos c1]; exact .of_false rfl fun h=> by have:=h.dl; omega
 rw[if_neg c1];by_cases c2:6 < (x.Dims.length:Int)
 ·rw[if_pos c2]; exact .of_false rfl fun h=> by have:=h.dl; omega
 rw[if_neg c2,chk_ok (by omega) (by omega),ob];by_cases c3:(x.Maps.length:Int)=(x.Dims.length:Int) - 1
 case neg=> rw[if_neg c3]; exact .of_false rfl fun h=> by have:=h.ml; omega
 rw[if_pos c3];obtain⟨t,g1,g2⟩:=F39_1_eq hsm;rw[g1,ob];rcases g2 with⟨rfl,g2⟩|⟨rfl,g2⟩
 case inr=> exact .of_false rfl fun h=> g2 h.dims
 have hs:ShapeC x:=⟨hp,by omega,by omega,g2⟩;obtain⟨t,k1,k2⟩:=F39_2_eq hs hsm;simp only;rw[k1,ob];rcases k2 with⟨rfl,k2,k3⟩|⟨rfl,k2⟩
 ·exact .of_true rfl ⟨hs,k2,k3⟩
 ·exact .of_false rfl fun h=> k2 ⟨h.tab,h.sq⟩
theorem F42_1_eq{x:GComplex}(hs:ShapeC x)(hsm:SmallC x):
  ∃t,forR 0 (x.Maps.length:Int) (F42_1_B x) (F42_1_D x) ()=some t∧((t= .inl ()∧∀k,k < x.Maps.length→TabAt x k)∨(t= .inr false∧¬∀k,k < x.Maps.length→TabAt x k)):=by
 have hml:=hs.ml;have hm:=hsm.m;have hlen:x.Maps.length < 4611686018427387904:=by omega
 refine forR_inv x.Maps.length rfl hlen (fun i _=>∀k,k < i→TabAt x k) _ (fun k hk=> by omega) ?_ ?_
 ·rintro i _ hi ht
  unfold F42_1_B;have e2:((i:Int)+1)=((i+1:Nat):Int):=by omega
  have hr:=hsm.r _ (List.getElem_mem hi);rw[getI_nat hi,ob,e2,getI_getD (show i+1 < x.Dims.length by omega) 0,ob];have hti:TabAt x i↔((x.Maps[i].length:Int)=x.Dims.getD (i+1) 0∧∀r∈x.Maps[i],RowOK x.Prime (x.Dims.getD i 0) r):=by unfold TabAt; rw[mapsD hi]; rfl
  by_cases hc:(x.Maps[i].length:Int)=x.Dims.getD (i+1) 0
  ·rw[if_pos hc,getI_getD (show i < x.Dims.length by omega) 0,ob]
   have hT:=F90_tells (p:=x.Prime) (w:=x.Dims.getD i 0) (m:=x.Maps[i]) hs.p.range (by omega) (fun r h=> by have:=hr.2 r h; omega);rcases hT.case with⟨h1,h2⟩|⟨h1,h2⟩
   ·rw[h1,ob,if_pos rfl]
    left;refine⟨(),rfl,fun k hk=>?_⟩;by_cases e:k=i
    ·subst e; exact hti.2 ⟨hc,h2⟩
    ·exact ht k (by omega)
   ·rw[h1,ob,if_neg Bool.false_ne_true]
    right;exact⟨_,rfl,.inr ⟨rfl,fun ha=> h2 (hti.1 (ha i hi)).2⟩⟩
  ·rw[if_neg hc]
   right;exact⟨_,rfl,.inr ⟨rfl,fun ha=> hc (hti.1 (ha i hi)).1⟩⟩
 ·rintro _ ht
  exact⟨.inl (),rfl,.inl ⟨rfl,ht⟩⟩
theorem F91_eq{x:GComplex}(hs:ShapeC x)(hsm:SmallC x){k:Nat}(h1:0 < k)(h2:k < x.Maps.length)(t1:TabAt x (k - 1))(t2:TabAt x k){row:List Int}(hr:row∈x.Maps.getD k []):
  F91 x (k:Int) row=some (lin x.Prime (x.Dims.getD (k - 1) 0).toNat row (x.Maps.getD (k - 1) [])):=by
 have hml:=hs.ml;have hdl:=hs.dl;obtain⟨H,d0,d8⟩:=linOK_of hs h1 h2 t1 t2 hr;unfold F91;have e1:((k:Int) - 1)=((k - 1:Nat):Int):=by omega
 rw[if_neg (by omega),F86_eq hsm.d,ob,if_neg (by omega),chk_ok (by omega) (by omega),ob,e1,getI_getD (show k - 1 < x.Dims.length by omega) 0,ob,getI_getD (show k - 1 < x.Maps.length by omega) [],ob,
  F119_eq H (by omega),ob]
theorem F42_3_eq{x:GComplex}(hs:ShapeC x)(hsm:SmallC x)(ht:∀k,k < x.Maps.length→TabAt x k){n:Nat}(hn:2≤n)(h2:n - 1 < x.Maps.length):
  ∃t,forR 0 ((x.Maps[n - 1].length:Nat):Int) (F42_3_B x (n:Int) x.Maps[n - 1]) (F42_3_D x (n:Int) x.Maps[n - 1]) ()=some t∧((t= .inl ()∧SqAt x (n - 1))∨(t= .inr false∧¬SqAt x (n - 1))):=by
 have hml:=hs.ml;have hdl:=hs.dl;have hk:=(hsm.r _ (List.getElem_mem h2)).1;have hlen:x.Maps[n - 1].length < 4611686018427387904:=by omega
 refine forR_inv x.Maps[n - 1].length rfl hlen (fun i _=>∀j (hj:j < i) (h3:j < x.Maps[n - 1].length),∀y∈lin x.Prime (x.Dims.getD (n - 1 - 1) 0).toNat x.Maps[n - 1][j] (x.Maps.getD (n - 1 - 1) []),y=0) _ (fun j hj=> by omega) ?_ ?_
 ·rintro i _ hi hI
  unfold F42_3_B;have hrow:x.Maps[n - 1][i]∈x.Maps.getD (n - 1) []:=by rw[mapsD h2]; exact List.getElem_mem hi
  have e1:((n:Int) - 1)=((n - 1:Nat):Int):=by omega
  have t1:=ht (n - 1 - 1) (by omega);have t2:=ht (n - 1) h2;obtain⟨H,d0,d8⟩:=linOK_of hs (by omega) h2 t1 t2 hrow;rw[getI_nat hi,ob,chk_ok (by omega) (by omega),ob,e1,F91_eq hs hsm (by omega) h2 t1 t2 hrow,ob];rcases(F92_tells (l:=lin x.Prime (x.Dims.getD (n - 1 - 1) 0).toNat x.Maps[n - 1][i] (x.Maps.getD (n - 1 - 1) [])) (by rw[lin_len H]; omega)).case with⟨g1,g2⟩|⟨g1,g2⟩
  ·rw[g1,ob,if_pos rfl]
   left;refine⟨(),rfl,fun j hj h3=>?_⟩;by_cases e:j=i
   ·subst e; exact g2
   ·exact hI j (by omega) h3
  ·rw[g1,ob,if_neg Bool.false_ne_true]
   right;exact⟨_,rfl,.inr ⟨rfl,fun ha=> g2 (ha _ hrow)⟩⟩
 ·rintro _ hI
  refine⟨.inl (),rfl,.inl ⟨rfl,fun row hr=>?_⟩⟩;rw[mapsD h2]at hr;obtain⟨j,hj,rfl⟩:=List.getElem_of_mem hr;exact hI j hj hj
theorem F42_2_eq{x:GComplex}(hs:ShapeC x)(hsm:SmallC x)(ht:∀k,k < x.Maps.length→TabAt x k):
  ∃t,loopW (F42_2_S x) 2=some t∧((t= .inl ()∧∀k,0 < k→k < x.Maps.length→SqAt x k)∨(t= .inr false∧¬∀k,0 < k→k < x.Maps.length→SqAt x k)):=by
 have hml:=hs.ml;have hdl:=hs.dl;refine loopW_inv (fun j:Int=>(x.Dims.length+2 - j).toNat) (fun j=>∃n:Nat,j=n∧2≤n∧n≤x.Dims.length+1∧∀k,0 < k→k < n - 1→k < x.Maps.length→SqAt x k) _ ⟨2,rfl,by omega,by omega,fun k h0 hk=> by omega⟩ ?_;rintro _ ⟨n,rfl,hn,hn2,hall⟩;unfold F42_2_S;rw[F86_eq hsm.d,ob];by_cases hlt:(n:Int)≤(x.Dims.length:Int) - 1
 ·rw[if_pos hlt]
  have e1:((n:Int) - 1)=((n - 1:Nat):Int):=by omega
  have h2:n - 1 < x.Maps.length:=by omega
  rw[chk_ok (by omega) (by omega),ob,e1,getI_nat h2,ob];obtain⟨t,g1,g2⟩:=F42_3_eq hs hsm ht hn h2;rw[g1,ob];rcases g2 with⟨rfl,g2⟩|⟨rfl,g2⟩
  ·left
   refine⟨((n+1:Nat):Int),?_,⟨n+1,rfl,by omega,by omega,fun k h0 hk h3=>?_⟩,by omega⟩
   ·simp only
    rw[chk_ok (by omega) (by omega),ob];rfl
   ·by_cases e:k=n - 1
    ·subst e; exact g2
    ·exact hall k h0 (by omega) h3
  ·right
   exact⟨_,rfl,.inr ⟨rfl,fun ha=> g2 (ha _ (by omega) h2)⟩⟩
 ·rw[if_neg hlt]
  right;exact⟨_,rfl,.inl ⟨rfl,fun k h0 hk=> hall k h0 (by omega) hk⟩⟩
theorem F42_tells{x:GComplex}(hsm:SmallC x):Tells (F42 x) (ValidC x):=by
 have hd:=hsm.d;unfold F42;rcases(F67_tells x.Prime).case with⟨h1,hp⟩|⟨h1,hp⟩
 case inr=> rw[h1,ob,if_neg Bool.false_ne_true]; exact .of_false rfl fun h=> hp h.p
 rw[h1,ob,if_pos rfl,F86_eq hd,ob,F56_eq,ob];by_cases c1:0≤(x.Dims.length:Int) - 1∧(x.Dims.length:Int) - 1≤5
 case neg=> rw[if_neg (by simpa using c1)]; exact .of_false rfl fun h=> by have:=h.dl; omega
 rw[if_pos (by simpa using c1)];by_cases c3:(x.Maps.length:Int)=(x.Dims.length:Int) - 1
 case neg=> rw[if_neg c3]; exact .of_false rfl fun h=> by have:=h.ml; omega
 rw[if_pos c3];have h88:F82 x.Dims (fun y=> F88 y)=some (x.Dims.any fun d=> !decide (0≤d∧d≤8)):=F82_eq _ (by omega) (fun d _=> by unfold F88; rw[F56_eq,ob]);rw[h88,ob];have hany:(x.Dims.any fun d=> !decide (0≤d∧d≤8))=true↔¬∀d∈x.Dims,0≤d∧d≤8:=by
  simp only[List.any_eq_true,Bool.not_eq_true',decide_eq_false_iff_not];constructor
  ·rintro⟨d,h1,h2⟩ ha; exact h2 (ha d h1)
  ·intro hn
   exact Classical.byContradiction fun hc=> hn fun d hd=> Classical.byContradiction fun h=> hc ⟨d,hd,h⟩
 by_cases c4:(x.Dims.any fun d=> !decide (0≤d∧d≤8))=true
 ·rw[if_pos c4]; exact .of_false rfl fun h=> hany.1 c4 h.dims
 rw[if_neg c4];have hdims:∀d∈x.Dims,0≤d∧d≤8:=Classical.byContradiction fun hc=> c4 (hany.2 hc);have hs:ShapeC x:=⟨hp,by omega,by omega,hdims⟩;obtain⟨t,g1,g2⟩:=F42_1_eq hs hsm;rw[g1,ob];rcases g2 with⟨rfl,ht⟩|⟨rfl,ht⟩
 case inr=> exact .of_false rfl fun h=> ht h.tab
 obtain⟨t,k1,k2⟩:=F42_2_eq hs hsm ht;simp only;rw[k1,ob];rcases k2 with⟨rfl,k2⟩|⟨rfl,k2⟩
 ·exact .of_true rfl ⟨hs,ht,k2⟩
 ·exact .of_false rfl fun h=> k2 h.sq
structure SmallF (x:GFiltered):Prop where
 c:SmallC x.Complex
 l:x.Levels.length≤1048576
 r:∀q∈x.Levels,q.length≤1048576
def numAt(ms:List (List (List Int)))(k i j:Nat):Int:=((ms.getD k []).getD i []).getD j 0
def InT(ms:List (List (List Int)))(k i j:Nat):Prop:=k < ms.length∧i < (ms.getD k []).length∧j < ((ms.getD k []).getD i []).length
structure LevC (x:GFiltered):Prop where
 ll:x.Levels.length=x.Complex.Dims.length
 lv:∀n,n < x.Levels.length→((x.Levels.getD n []).length:Int)=x.Complex.Dims.getD n 0∧∀q∈x.Levels.getD n [],0≤q∧q≤5
theorem getD_mem{α:Type}{l:List α}{i:Nat}(h:i < l.length)(d:α):l.getD i d∈l:=by
 rw[List.getD_eq_getElem?_getD,List.getElem?_eq_getElem h]; exact List.getElem_mem h
theorem F76_eq{x:GComplex}(hs:x.Dims.length≤1048576){k:Nat}(h:k+1 < x.Dims.length)(hm:k < x.Maps.length):F76 x ((k+1:Nat):Int)=some (x.Maps.getD k []):=by
 unfold F76;have e:(((k+1:Nat):Int) - 1)=(k:Int):=by omega
 rw[chk_ok (by omega) (by omega),ob,F54_eq,ob,if_pos (by simp; omega),chk_ok (by omega) (by omega),ob,e,getI_getD hm [],ob]
abbrev Long0(n:Int):Prop:= -9223372036854775808≤n∧n≤9223372036854775807
abbrev LongL{α:Type}(L:α→Prop)(l:List α):Prop:=l.length≤9223372036854775807∧∀y∈l,L y
structure LongC (x:GComplex):Prop where
 p:Long0 x.Prime
 d:LongL Long0 x.Dims
 m:LongL (LongL (LongL Long0)) x.Maps
theorem F43_eq{a:List Int}(ha:a.length≤9223372036854775807){s:Int}(h0:0≤s)(h1:s≤1048576):∃z,F43 a s=some z∧(z < 0∨(0≤z∧z≤1048576∧a.length≤1048576)):=by
 unfold F43;rw[chk_ok (by omega) (by omega),ob];by_cases h:s - (a.length:Int) < 0
 ·rw[if_pos h]; exact⟨_,rfl,.inl (by decide)⟩
 ·rw[if_neg h]; exact⟨_,rfl,.inr ⟨by omega,by omega,by omega⟩⟩
theorem sz_loop{α:Type}{l:List α}(S:α→Prop){B:Int→Int→Option (Int⊕(Int⊕Int))}{D:Int→Int→Option (Int⊕Int)}(hl:l.length≤1048576)
  (hB:∀ (i:Nat) (hi:i < l.length) (v:Int),0≤v→v≤1048576→(∃z,B i v=some (.inl z)∧0≤z∧z≤1048576∧S l[i])∨B i v=some (.inr (.inr (-1)))) (hD:∀v,D (l.length:Int) v=some (.inl v)∨∀i v,D i v=some (.inl v)) (hD':∀i v,D i v=some (.inl v))
  {s:Int} (h0:0≤s) (h1:s≤1048576):∃t,forR 0 (l.length:Int) B D s=some t∧((∃z,t= .inl z∧0≤z∧z≤1048576∧∀y∈l,S y)∨t= .inr (-1)):=by
 have hlen:l.length < 4611686018427387904:=by omega
 refine forR_inv l.length rfl hlen (fun i v=> 0≤v∧v≤1048576∧∀k (h:k < l.length),k < i→S l[k]) _ ⟨h0,h1,fun k _ hk=> by omega⟩ ?_ ?_
 ·rintro i v hi ⟨p0,p1,p2⟩
  rcases hB i hi v p0 p1 with⟨z,q1,q2,q3,q4⟩|q
  ·left
   refine⟨z,q1,q2,q3,fun k h hk=>?_⟩;by_cases e:k=i
   ·subst e; exact q4
   ·exact p2 k h (by omega)
  ·right
   exact⟨_,q,.inr rfl⟩
 ·rintro v ⟨p0,p1,p2⟩
  refine⟨_,hD' _ _,.inl ⟨v,rfl,p0,p1,fun y hy=>?_⟩⟩;obtain⟨k,hk,rfl⟩:=List.getElem_of_mem hy;exact p2 k hk hk
theorem F44_eq{a:List (List Int)}(ha:LongL (LongL Long0) a){s:Int}(h0:0≤s)(h1:s≤1048576):∃z,F44 a s=some z∧(z < 0∨(0≤z∧z≤1048576∧a.length≤1048576∧∀r∈a,r.length≤1048576)):=by
 have hal:=ha.1;unfold F44;rw[chk_ok (by omega) (by omega),ob];by_cases h:s - (a.length:Int) < 0
 ·rw[if_pos h]; exact⟨_,rfl,.inl (by decide)⟩
 ·rw[if_neg h]
  obtain⟨t,g1,g2⟩:=sz_loop (l:=a) (B:=F44_1_B a) (D:=F44_1_D a) (fun r=> r.length≤1048576) (by omega) (fun i hi v v0 v1=> by
   unfold F44_1_B;obtain⟨z,k1,k2⟩:=F43_eq (ha.2 _ (List.getElem_mem hi)).1 v0 v1;rw[getI_nat hi,ob,k1,ob];rcases k2 with k2|⟨k2,k3,k4⟩
   ·rw[if_pos k2]; exact .inr rfl
   ·rw[if_neg (by omega)]; exact .inl ⟨z,rfl,k2,k3,k4⟩) (fun v=> .inl rfl) (fun i v=> rfl) (show 0≤s - (a.length:Int) by omega) (by omega)
  rw[g1,ob];rcases g2 with⟨z,rfl,q1,q2,q3⟩|rfl
  ·exact⟨z,rfl,.inr ⟨q1,q2,by omega,q3⟩⟩
  ·exact⟨_,rfl,.inl (by decide)⟩
theorem F11_eq{a:List (List (List Int))}(ha:LongL (LongL (LongL Long0)) a){s:Int}(h0:0≤s)(h1:s≤1048576):∃z,F11 a s=some z∧(z < 0∨(0≤z∧z≤1048576∧a.length≤1048576∧∀m∈a,m.length≤1048576∧∀r∈m,r.length≤1048576)):=by
 have hal:=ha.1;unfold F11;rw[chk_ok (by omega) (by omega),ob];by_cases h:s - (a.length:Int) < 0
 ·rw[if_pos h]; exact⟨_,rfl,.inl (by decide)⟩
 ·rw[if_neg h]
  obtain⟨t,g1,g2⟩:=sz_loop (l:=a) (B:=F11_1_B a) (D:=F11_1_D a) (fun m=> m.length≤1048576∧∀r∈m,r.length≤1048576) (by omega) (fun i hi v v0 v1=> by
   unfold F11_1_B;obtain⟨z,k1,k2⟩:=F44_eq (ha.2 _ (List.getElem_mem hi)) v0 v1;rw[getI_nat hi,ob,k1,ob];rcases k2 with k2|⟨k2,k3,k4⟩
   ·rw[if_pos k2]; exact .inr rfl
   ·rw[if_neg (by omega)]; exact .inl ⟨z,rfl,k2,k3,k4⟩) (fun v=> .inl rfl) (fun i v=> rfl) (show 0≤s - (a.length:Int) by omega) (by omega)
  rw[g1,ob];rcases g2 with⟨z,rfl,q1,q2,q3⟩|rfl
  ·exact⟨z,rfl,.inr ⟨q1,q2,by omega,q3⟩⟩
  ·exact⟨_,rfl,.inl (by decide)⟩
theorem F10_eq{x:GComplex}(hx:LongC x){s:Int}(h0:0≤s)(h1:s≤1048576):∃z,F10 x s=some z∧(z < 0∨(0≤z∧z≤1048576∧SmallC x)):=by
 unfold F10;obtain⟨z,k1,k2⟩:=F43_eq hx.d.1 h0 h1;rw[k1,ob];rcases k2 with k2|⟨k2,k3,k4⟩
 ·rw[if_pos k2]; exact⟨_,rfl,.inl (by decide)⟩
 rw[if_neg (by omega)];obtain⟨y,l1,l2⟩:=F11_eq hx.m k2 k3;rw[l1,ob];rcases l2 with l2|⟨l2,l3,l4,l5⟩
 ·rw[if_pos l2]; exact⟨_,rfl,.inl (by decide)⟩
 rw[if_neg (by omega)];exact⟨y,rfl,.inr ⟨l2,l3,⟨k4,l4,l5⟩⟩⟩
theorem to_loop{α:Type}{l:List α}{B:Int→List α→Option (List α⊕List α)}{D:Int→List α→Option (List α)}(hl:l.length≤1048576)
  (hB:∀ (i:Nat) (hi:i < l.length) (s:List α),s.length=l.length→B i s=some (.inl (s.set i l[i]))) (hD:∀i s,D i s=some s) {s:List α} (hs:s.length=l.length):forR 0 (l.length:Int) B D s=some l:=by
 have hlen:l.length < 4611686018427387904:=by omega
 obtain⟨t,h1,h2⟩:=forR_inv (B:=B) (D:=D) l.length rfl hlen (fun i s=> s.length=l.length∧∀k,k < i→s[k]? =l[k]?) (fun t=> t=l) (s:=s) ⟨hs,fun k hk=> by omega⟩ (by
  rintro i s hi ⟨p1,p2⟩;left;refine⟨_,hB i hi s p1,by rw[List.length_set]; exact p1,fun k hk=>?_⟩;rw[List.getElem?_set];by_cases e:i=k
  ·subst e; rw[if_pos rfl,if_pos (by omega)]; simp[hi]
  ·rw[if_neg e]; exact p2 k (by omega)) (by
  rintro s ⟨p1,p2⟩;refine⟨s,hD _ _,?_⟩;apply List.ext_getElem?;intro k;by_cases hk:k < l.length
  ·exact p2 k hk
  ·rw[List.getElem?_eq_none (by omega),List.getElem?_eq_none (by omega)])
 rw[h1,h2]
theorem F47_eq{l:List Int}(h:l.length≤1048576):F47 l=some l:=by
 unfold F47;rw[mkL_ok l.length rfl (by omega) (by omega),ob,to_loop (l:=l) (B:=F47_1_B l) (D:=F47_1_D l) h (fun i hi s hs=> by
  unfold F47_1_B;rw[getI_nat hi,ob,getI_nat (show i < s.length by omega),ob,setI_nat (by omega),ob]) (fun i s=> rfl) (List.length_replicate ..),ob]
theorem F48_eq{l:List (List Int)}(h:l.length≤1048576)(h2:∀r∈l,r.length≤1048576):F48 l=some l:=by
 unfold F48;rw[mkL_ok l.length rfl (by omega) (by omega),ob,to_loop (l:=l) (B:=F48_1_B l) (D:=F48_1_D l) h (fun i hi s hs=> by
  unfold F48_1_B;rw[getI_nat hi,ob,F47_eq (h2 _ (List.getElem_mem hi)),ob,getI_nat (show i < s.length by omega),ob,setI_nat (by omega),ob]) (fun i s=> rfl) (List.length_replicate ..),ob]
theorem F13_eq{l:List (List (List Int))}(h:l.length≤1048576)(h2:∀m∈l,m.length≤1048576∧∀r∈m,r.length≤1048576):F13 l=some l:=by
 unfold F13;rw[mkL_ok l.length rfl (by omega) (by omega),ob,to_loop (l:=l) (B:=F13_1_B l) (D:=F13_1_D l) h (fun i hi s hs=> by
  unfold F13_1_B;rw[getI_nat hi,ob,F48_eq (h2 _ (List.getElem_mem hi)).1 (h2 _ (List.getElem_mem hi)).2,ob,getI_nat (show i < s.length by omega),ob,setI_nat (by omega),ob]) (fun i s=> rfl) (List.length_replicate ..),ob]
theorem F12_eq{x:GComplex}(h:SmallC x):F12 x=some x:=by
 unfold F12;rw[F47_eq h.d,ob,F13_eq h.m h.r,ob]
theorem eq_loop{n:Nat}{B:Int→Unit→Option (Unit⊕(Unit⊕Bool))}{D:Int→Unit→Option (Unit⊕Bool)}(hn:n≤1048576)(hB:∀ (i:Nat) (s:Unit),i < n→B i s=some (.inl ()))(hD:∀i s,D i s=some (.inl ())):forR 0 (n:Int) B D ()=some (.inl ()):=by
 have hlen:n < 4611686018427387904:=by omega
 obtain⟨t,h1,h2⟩:=forR_inv (B:=B) (D:=D) n rfl hlen (fun _ _=> True) (fun t=> t= .inl ()) (s:=()) trivial (fun i s hi _=> .inl ⟨_,hB i s hi,trivial⟩) (fun s _=>⟨_,hD _ _,rfl⟩);rw[h1,h2]
theorem F30_same{a:List Int}(h:a.length≤1048576):F30 a a=some true:=by
 unfold F30;rw[if_pos rfl,eq_loop (B:=F30_1_B a a) (D:=F30_1_D a a) h (fun i s hi=> by unfold F30_1_B; rw[getI_nat hi,ob,ob,if_pos rfl]) (fun i s=> rfl),ob]
theorem F51_same{a:List (List Int)}(h:a.length≤1048576)(h2:∀r∈a,r.length≤1048576):F51 a a=some true:=by
 unfold F51;rw[if_pos rfl,eq_loop (B:=F51_1_B a a) (D:=F51_1_D a a) h (fun i s hi=> by unfold F51_1_B; rw[getI_nat hi,ob,ob,F30_same (h2 _ (List.getElem_mem hi)),ob,if_pos rfl]) (fun i s=> rfl),ob]
theorem F17_same{a:List (List (List Int))}(h:a.length≤1048576)(h2:∀m∈a,m.length≤1048576∧∀r∈m,r.length≤1048576):F17 a a=some true:=by
 unfold F17;rw[if_pos rfl,eq_loop (B:=F17_1_B a a) (D:=F17_1_D a a) h (fun i s hi=> by unfold F17_1_B; rw[getI_nat hi,ob,ob,F51_same (h2 _ (List.getElem_mem hi)).1 (h2 _ (List.getElem_mem hi)).2,ob,if_pos rfl]) (fun i s=> rfl),ob]
theorem F16_same{x:GComplex}(h:SmallC x):F16 x x=some true:=by
 unfold F16;rw[if_pos rfl,F30_same h.d,ob,if_pos rfl,F17_same h.m h.r,ob,if_pos rfl]
structure SmallT (ms:List (List (List Int))):Prop where
 m:ms.length≤1048576
 r:∀m∈ms,m.length≤1048576∧∀r∈m,r.length≤1048576
def TabM(x:GComplex)(ms:List (List (List Int)))(k:Nat):Prop:=TableOK x.Prime (x.Dims.getD (k+1) 0) (x.Dims.getD k 0) (ms.getD k [])
structure MapsOK (x:GComplex) (ms:List (List (List Int))):Prop where
 v:ValidC x
 l:ms.length=x.Maps.length
 t:∀k,k < ms.length→TabM x ms k
abbrev T3s:=List (List (List Int))
structure Shp (s u:T3s):Prop where
 l:s.length=u.length
 t:∀k,k < u.length→(s.getD k []).length=(u.getD k []).length
 r:∀k,k < u.length→∀i,i < (u.getD k []).length→((s.getD k []).getD i []).length=((u.getD k []).getD i []).length
theorem Shp.refl(s:T3s):Shp s s:=⟨rfl,fun _ _=> rfl,fun _ _ _ _=> rfl⟩
theorem Shp.trans{a b c:T3s}(h:Shp a b)(k:Shp b c):Shp a c:=
 ⟨h.l.trans k.l,fun n hn=>(h.t n (by rw[k.l]; exact hn)).trans (k.t n hn),fun n hn i hi=>(h.r n (by rw[k.l]; exact hn) i (by rw[k.t n hn]; exact hi)).trans (k.r n hn i hi)⟩
theorem Shp.symm{a b:T3s}(h:Shp a b):Shp b a:=
 ⟨h.l.symm,fun n hn=>(h.t n (by rw[←h.l]; exact hn)).symm,fun n hn i hi=>(h.r n (by rw[←h.l]; exact hn) i (by rw[←h.t n (by rw[←h.l]; exact hn)]; exact hi)).symm⟩
theorem Shp.inT{s t:T3s}(h:Shp s t){k i j:Nat}(q:InT t k i j):InT s k i j:=by
 obtain⟨q1,q2,q3⟩:=q;exact⟨by rw[h.l]; exact q1,by rw[h.t k q1]; exact q2,by rw[h.r k q1 i q2]; exact q3⟩
theorem getD_ext{α:Type}{l l':List α}(d:α)(h:l.length=l'.length)(hv:∀k,k < l'.length→l.getD k d=l'.getD k d):l=l':=by
 apply List.ext_getElem h;intro k h1 h2;have:=hv k h2;simpa[h1,h2]using this
theorem Shp.eq{s t:T3s}(h:Shp s t)(hv:∀k i j,InT t k i j→numAt s k i j=numAt t k i j):s=t:=by
 refine getD_ext [] h.l fun k hk=> getD_ext [] (h.t k hk) fun i hi=> getD_ext 0 (h.r k hk i hi) fun j hj=> hv k i j ⟨hk,hi,hj⟩
def put3(s:T3s)(k i j:Nat)(z:Int):T3s:=s.set k ((s.getD k []).set i (((s.getD k []).getD i []).set j z))
theorem getD_set{α:Type}{l:List α}{k k':Nat}{x d:α}(hk:k < l.length):(l.set k x).getD k' d=if k'=k then x else l.getD k' d:=by
 rw[List.getD_eq_getElem?_getD,List.getElem?_set];by_cases e:k=k'
 ·subst e; rw[if_pos rfl,if_pos hk,if_pos rfl]; rfl
 ·rw[if_neg e,if_neg (fun q=> e q.symm),List.getD_eq_getElem?_getD]
theorem put3_shp{s:T3s}{k i j:Nat}(h:InT s k i j)(z:Int):Shp (put3 s k i j z) s:=by
 obtain⟨h1,h2,h3⟩:=h;refine⟨by simp[put3],fun n hn=>?_,fun n hn m hm=>?_⟩
 ·unfold put3; rw[getD_set h1]; split
  ·rename_i e; subst e; simp
  ·rfl
 ·unfold put3; rw[getD_set h1]; split
  ·rename_i e; subst e
   rw[getD_set h2]; split
   ·rename_i e; subst e; simp
   ·rfl
  ·rfl
theorem put3_at{s:T3s}{k i j:Nat}(h:InT s k i j)(z:Int)(k' i' j':Nat):numAt (put3 s k i j z) k' i' j'=if k'=k∧i'=i∧j'=j then z else numAt s k' i' j':=by
 obtain⟨h1,h2,h3⟩:=h;unfold numAt put3;rw[getD_set h1];by_cases e:k'=k
 ·subst e
  rw[if_pos rfl,getD_set h2];by_cases e:i'=i
  ·subst e
   rw[if_pos rfl,getD_set h3];by_cases e:j'=j
   ·subst e; simp
   ·rw[if_neg e,if_neg (by simp[e])]
  ·rw[if_neg e,if_neg (by simp[e])]
 ·rw[if_neg e,if_neg (by simp[e])]
def q1(p a b:Int):Int:=((a+b).tmod p+p).tmod p
def Rng(p:Int)(s:T3s):Prop:=∀k i j,InT s k i j→0≤numAt s k i j∧numAt s k i j < p
def AT(q:Int→Int→Int)(s0 ms:T3s)(D:Nat→Nat→Nat→Prop)(s:T3s):Prop:=
 Shp s s0∧∀k i j,InT s0 k i j→(D k i j→numAt s k i j=q (numAt s0 k i j) (numAt ms k i j))∧(¬D k i j→numAt s k i j=numAt s0 k i j)
theorem AT.imp{q:Int→Int→Int}{s0 ms:T3s}{D D':Nat→Nat→Nat→Prop}{s:T3s}(h:AT q s0 ms D s)(hd:∀k i j,InT s0 k i j→(D k i j↔D' k i j)):AT q s0 ms D' s:=
 ⟨h.1,fun k i j hin=>⟨fun d=>(h.2 k i j hin).1 ((hd k i j hin).2 d),fun d=>(h.2 k i j hin).2 fun x=> d ((hd k i j hin).1 x)⟩⟩
theorem AT.zero(q:Int→Int→Int)(s0 ms:T3s):AT q s0 ms (fun _ _ _=> False) s0:=⟨.refl _,fun k i j _=>⟨fun x=> x.elim,fun _=> rfl⟩⟩
theorem AT.step{q:Int→Int→Int}{s0 ms:T3s}{D D':Nat→Nat→Nat→Prop}{s:T3s}(h:AT q s0 ms D s){k i j:Nat}(hin:InT s0 k i j)(hn:¬D k i j)(hd:∀k' i' j',D' k' i' j'↔D k' i' j'∨(k'=k∧i'=i∧j'=j)):AT q s0 ms D' (put3 s k i j (q (numAt s k i j) (numAt ms k i j))):=by
 have hs:=h.1.inT hin;refine⟨(put3_shp hs _).trans h.1,fun k' i' j' hin'=>?_⟩;rw[put3_at hs];by_cases e:k'=k∧i'=i∧j'=j
 ·obtain⟨rfl,rfl,rfl⟩:=e
  rw[if_pos ⟨rfl,rfl,rfl⟩,(h.2 _ _ _ hin').2 hn];exact⟨fun _=> rfl,fun d=> absurd ((hd _ _ _).2 (.inr ⟨rfl,rfl,rfl⟩)) d⟩
 ·rw[if_neg e]
  refine⟨fun d=>(h.2 _ _ _ hin').1 (((hd _ _ _).1 d).resolve_right e),fun d=>(h.2 _ _ _ hin').2 fun x=> d ((hd _ _ _).2 (.inl x))⟩
theorem AT.row{q:Int→Int→Int}{s0 ms:T3s}{D D':Nat→Nat→Nat→Prop}{s:T3s}(h:AT q s0 ms D s){k i:Nat}{row':List Int}(hk:k < s0.length)(hi:i < (s0.getD k []).length)(hl:row'.length=((s.getD k []).getD i []).length)
  (hv:∀j,j < row'.length→row'.getD j 0=q (numAt s k i j) (numAt ms k i j)) (hn:∀j,¬D k i j) (hd:∀k' i' j',D' k' i' j'↔D k' i' j'∨(k'=k∧i'=i)):AT q s0 ms D' (s.set k ((s.getD k []).set i row')):=by
 have hk':k < s.length:=by rw[h.1.l]; exact hk
 have hi':i < (s.getD k []).length:=by rw[h.1.t k hk]; exact hi
 refine⟨Shp.trans ⟨by simp,fun n hn=>?_,fun n hn m hm=>?_⟩ h.1,fun k' i' j' hin'=>?_⟩
 ·rw[getD_set hk']; split
  ·rename_i e; subst e; simp
  ·rfl
 ·rw[getD_set hk']; split
  ·rename_i e; subst e
   rw[getD_set hi']; split
   ·rename_i e; subst e; exact hl
   ·rfl
  ·rfl
 ·have hat:numAt (s.set k ((s.getD k []).set i row')) k' i' j'=if k'=k∧i'=i then row'.getD j' 0 else numAt s k' i' j':=by
   unfold numAt;rw[getD_set hk'];by_cases e:k'=k
   ·subst e
    rw[if_pos rfl,getD_set hi'];by_cases e:i'=i
    ·subst e; simp
    ·rw[if_neg e,if_neg (by simp[e])]
   ·rw[if_neg e,if_neg (by simp[e])]
  rw[hat];by_cases e:k'=k∧i'=i
  ·obtain⟨rfl,rfl⟩:=e
   rw[if_pos ⟨rfl,rfl⟩,hv j' (by rw[hl]; exact(h.1.inT hin').2.2),(h.2 _ _ _ hin').2 (hn j')];exact⟨fun _=> rfl,fun d=> absurd ((hd _ _ _).2 (.inr ⟨rfl,rfl⟩)) d⟩
  ·rw[if_neg e]
   refine⟨fun d=>(h.2 _ _ _ hin').1 (((hd _ _ _).1 d).resolve_right e),fun d=>(h.2 _ _ _ hin').2 fun x=> d ((hd _ _ _).2 (.inl x))⟩
theorem cpy_loop{α:Type}{l:List α}{B:Int→List α→Option (List α⊕List α)}{D:Int→List α→Option (List α)}(hl:l.length≤1048576)
  (hB:∀ (i:Nat) (hi:i < l.length) (s:List α),s.length=i→B i s=some (.inl (s++[l[i]]))) (hD:∀i s,D i s=some s):forR 0 (l.length:Int) B D []=some l:=by
 have hlen:l.length < 4611686018427387904:=by omega
 obtain⟨t,h1,h2⟩:=forR_inv (B:=B) (D:=D) l.length rfl hlen (fun i s=> s=l.take i) (fun t=> t=l) (s:=[]) (by simp) (by
  rintro i s hi rfl;left;refine⟨_,hB i hi _ (by simp; omega),?_⟩;rw[List.take_append_getElem]) (by
  rintro s rfl;exact⟨_,hD _ _,by simp⟩)
 rw[h1,h2]
theorem app_nil{b:Nat}{α:Type}{l:List α}(h:l.length*b≤1099511627776)(h2:l.length≤1099511627776):app b [] l=some l:=by
 rw[app_ok (by simpa using h) (by simpa using h2)]; rfl
theorem F94_eq{l:List Int}(h:l.length≤1048576):F94 l=some l:=by
 unfold F94; rw[app_nil (by omega) (by omega),ob]
theorem F96_eq{l:List Int}(h:l.length≤1048576):F96 l=some l:=by
 unfold F96; rw[app_nil (by omega) (by omega)]
theorem TabM.len{x:GComplex}{ms:T3s}{k:Nat}(h:TabM x ms k):((ms.getD k []).length:Int)=x.Dims.getD (k+1) 0:=h.1
theorem MapsOK.self{x:GComplex}(h:ValidC x):MapsOK x x.Maps:=⟨h,rfl,fun k hk=> h.tab k hk⟩
theorem MapsOK.rng{x:GComplex}{ms:T3s}(h:MapsOK x ms):Rng x.Prime ms:=by
 rintro k i j ⟨h1,h2,h3⟩;exact((h.t k h1).2 _ (getD_mem h2 [])).2 _ (getD_mem h3 0)
theorem MapsOK.shp{x:GComplex}{ms ns:T3s}(h:MapsOK x ms)(k:MapsOK x ns):Shp ms ns:=by
 have e:ms.length=ns.length:=h.l.trans k.l.symm;refine⟨e,fun n hn=>?_,fun n hn i hi=>?_⟩
 ·have a:=(h.t n (by omega)).1
  have b:=(k.t n hn).1;omega
 ·have a:=(h.t n (by omega)).1
  have b:=(k.t n hn).1;have c:=((h.t n (by omega)).2 _ (getD_mem (show i < (ms.getD n []).length by omega) [])).1;have d:=((k.t n hn).2 _ (getD_mem hi [])).1;omega
def zT(dims:List Int)(k:Nat):List (List Int):=List.replicate (dims.getD (k+1) 0).toNat (List.replicate (dims.getD k 0).toNat (0:Int))
def zM(dims:List Int):T3s:=(List.range (dims.length - 1)).map (zT dims)
theorem zM_at{dims:List Int}{k:Nat}(hk:k < dims.length - 1):(zM dims).getD k []=zT dims k:=by
 unfold zM;rw[List.getD_eq_getElem?_getD,List.getElem?_map,List.getElem?_range hk]; rfl
inductive Ch {α:Type} (R:α→Int→Int→Prop):List α→Int→Int→Prop
 |nil (k:Int):Ch R [] k k
 |cons {a:α} {l:List α} {k j m:Int}:R a k j→Ch R l j m→Ch R (a::l) k m
theorem Ch.snoc{α:Type}{R:α→Int→Int→Prop}{a:α}{j m:Int}(h:R a j m):∀ {l:List α} {k:Int},Ch R l k j→Ch R (l++[a]) k m
 |_,_,.nil _=> .cons h (.nil _)
 |_,_,.cons p q=> .cons p (Ch.snoc h q)
theorem take_set_app{α:Type}{l:List α}{i:Nat}(hi:i < l.length)(a:α):(l.set i a).take (i+1)=l.take i++[a]:=by
 rw[List.take_add_one,List.getElem?_set_self hi,List.take_set_of_le (Nat.le_refl _)]; rfl
theorem mark_loop{α:Type}{l:List α}{R:α→Int→Int→Prop}{M k:Int}{B:Int→List α×Int→Option ((List α×Int)⊕(List α×Int))}{D:Int→List α×Int→Option (List α×Int)}(hl:l.length≤1048576)(hM:0≤M)
  (hB:∀ (i:Nat) (hi:i < l.length) (s:List α) (j:Int),s.length=l.length→s[i]? =some l[i]→k≤j→j≤k+i*M→∃a m,B i (s,j)=some (.inl (s.set i a,m))∧R a j m∧j≤m∧m≤j+M) (hD:∀i s,D i s=some s):
  ∃r j,forR 0 (l.length:Int) B D (l,k)=some (r,j)∧Ch R r k j∧k≤j∧j≤k+l.length*M∧r.length=l.length:=by
 have hlen:l.length < 4611686018427387904:=by omega
 obtain⟨t,h1,h2,h3,h4,h5⟩:=forR_inv (B:=B) (D:=D) l.length rfl hlen (fun i s=> s.1.length=l.length∧(∀n,i≤n→s.1[n]? =l[n]?)∧Ch R (s.1.take i) k s.2∧k≤s.2∧s.2≤k+i*M) (fun t=> Ch R t.1 k t.2∧k≤t.2∧t.2≤k+l.length*M∧t.1.length=l.length) (s:=(l,k)) ⟨rfl,fun _ _=> rfl,by simpa using Ch.nil k,Int.le_refl _,by simp⟩ (by
  rintro i ⟨s,j⟩ hi ⟨p1,p2,p3,p4,p5⟩;simp only at p1 p2 p3 p4 p5;left;obtain⟨a,m,q1,q2,q3,q4⟩:=hB i hi s j p1 (by rw[p2 i (Nat.le_refl _)]; simp[hi]) p4 p5;refine⟨_,q1,by simp[p1],fun n hn=>?_,?_,by simp only; omega,?_⟩
  ·simp only
   rw[List.getElem?_set_ne (by omega)]; exact p2 n (by omega)
  ·simp only
   rw[take_set_app (by omega)]; exact p3.snoc q2
  ·simp only
   rw[Int.natCast_add,Int.add_mul]; omega) (by
  rintro⟨s,j⟩ ⟨p1,p2,p3,p4,p5⟩;simp only at p1 p2 p3 p4 p5;refine⟨_,hD _ _,?_,p4,p5,p1⟩;rw[←p1,List.take_length]at p3;exact p3)
 exact⟨t.1,t.2,h1,h2,h3,h4,h5⟩
theorem held_loop{α:Type}{l:List α}{R:α→Int→Int→Prop}{k m:Int}{B:Int→Int→Option (Int⊕(Int⊕Int))}{D:Int→Int→Option (Int⊕Int)}(hl:l.length≤1048576)(hc:Ch R l k m)
  (hB:∀ (i:Nat) (hi:i < l.length) (s j:Int),k≤s→R l[i] s j→B i s=some (.inl j)) (hR:∀a s j,R a s j→s≤j) (hD:∀i s,D i s=some (.inl s)):forR 0 (l.length:Int) B D k=some (.inl m):=by
 have hlen:l.length < 4611686018427387904:=by omega
 obtain⟨t,h1,h2⟩:=forR_inv (B:=B) (D:=D) l.length rfl hlen (fun i s=> k≤s∧Ch R (l.drop i) s m) (fun t=> t= .inl m) (s:=k) ⟨Int.le_refl _,hc⟩ (by
  rintro i s hi ⟨p0,p⟩;left;rw[List.drop_eq_getElem_cons hi]at p;cases p with
  |cons p q=>
   rename_i j;exact⟨j,hB i hi s j p0 p,by have:=hR _ _ _ p; omega,q⟩) (by
  rintro s ⟨_,p⟩;rw[List.drop_length]at p;cases p;exact⟨_,hD _ _,rfl⟩)
 rw[h1,h2]
def Mk0(n:Int)(k m:Int):Prop:=n=k∧m=k+1
def Mk1(l:List Int)(k m:Int):Prop:=l.length≤1048576∧k≤m∧m≤k+1048576∧Ch Mk0 l k m
def Mk2(l:List (List Int))(k m:Int):Prop:=l.length≤1048576∧k≤m∧m≤k+1099511627776∧Ch Mk1 l k m
def Mk3(l:List (List (List Int)))(k m:Int):Prop:=l.length≤1048576∧k≤m∧m≤k+1152921504606846976∧Ch Mk2 l k m
theorem F31_mk{l:List Int}(h:l.length≤1048576){k:Int}(h0:0≤k)(h1:k≤9223372036850000000):∃r m,F31 l k=some (r,m)∧Mk1 r k m:=by
 obtain⟨r,j,g1,g2,g3,g4,g5⟩:=mark_loop (R:=Mk0) (k:=k) (B:=F31_1_B) (D:=F31_1_D) (M:=1) h (by decide) (by
  intro i hi s j e1 e2 e3 e4;unfold F31_1_B;simp only;rw[setI_nat (by omega),ob,chk_ok (by omega) (by omega),ob];exact⟨_,_,rfl,⟨rfl,rfl⟩,by omega,by omega⟩) (fun i s=> rfl)
 exact⟨r,j,g1,by omega,g3,by omega,g2⟩
theorem F52_mk{l:List (List Int)}(h:l.length≤1048576)(h2:∀r∈l,r.length≤1048576){k:Int}(h0:0≤k)(h1:k≤9200000000000000000):∃r m,F52 l k=some (r,m)∧Mk2 r k m:=by
 obtain⟨r,j,g1,g2,g3,g4,g5⟩:=mark_loop (R:=Mk1) (k:=k) (B:=F52_1_B) (D:=F52_1_D) (M:=1048576) h (by decide) (by
  intro i hi s j e1 e2 e3 e4;unfold F52_1_B;simp only;obtain⟨r,m,q1,q2⟩:=F31_mk (h2 _ (List.getElem_mem hi)) (k:=j) (by omega) (by omega);have e5:getI s (i:Int)=some l[i]:=by unfold getI; rw[if_pos (by omega),Int.toNat_natCast]; exact e2
  rw[e5,ob,q1,ob,setI_nat (by omega),ob];exact⟨_,_,rfl,q2,q2.2.1,q2.2.2.1⟩) (fun i s=> rfl)
 exact⟨r,j,g1,by omega,g3,by omega,g2⟩
theorem F21_mk{l:List (List (List Int))}(h:l.length≤1048576)(h2:∀m∈l,m.length≤1048576∧∀r∈m,r.length≤1048576){k:Int}(h0:0≤k)(h1:k≤8000000000000000000):∃r m,F21 l k=some (r,m)∧Mk3 r k m:=by
 obtain⟨r,j,g1,g2,g3,g4,g5⟩:=mark_loop (R:=Mk2) (k:=k) (B:=F21_1_B) (D:=F21_1_D) (M:=1099511627776) h (by decide) (by
  intro i hi s j e1 e2 e3 e4;unfold F21_1_B;simp only;have hh:=h2 _ (List.getElem_mem hi);obtain⟨r,m,q1,q2⟩:=F52_mk hh.1 hh.2 (k:=j) (by omega) (by omega);have e5:getI s (i:Int)=some l[i]:=by unfold getI; rw[if_pos (by omega),Int.toNat_natCast]; exact e2
  rw[e5,ob,q1,ob,setI_nat (by omega),ob];exact⟨_,_,rfl,q2,q2.2.1,q2.2.2.1⟩) (fun i s=> rfl)
 exact⟨r,j,g1,by omega,g3,by omega,g2⟩
theorem F32_held{l:List Int}{k m:Int}(h:Mk1 l k m)(h0:0≤k)(h1:k≤4611686018427387904):F32 l k=some m:=by
 obtain⟨hl,h2,h3,hc⟩:=h;unfold F32;have:=held_loop (B:=F32_1_B l) (D:=F32_1_D l) (k:=k) (m:=m) hl (R:=fun a s j=> Mk0 a s j∧j≤m) (by
  clear h0 h1 h2 h3 hl;induction hc with
  |nil k=> exact .nil k
  |cons p q ih=>
   refine .cons ⟨p,?_⟩ ih;clear ih p;induction q with
   |nil=> exact Int.le_refl _
   |cons p q ih=> obtain⟨rfl,rfl⟩:=p; omega) (by
  rintro i hi s j hs ⟨⟨p,rfl⟩,hj⟩;unfold F32_1_B;rw[getI_nat hi,ob,if_pos p,chk_ok (by omega) (by omega),ob]) (fun a s j p=> by obtain⟨⟨_,rfl⟩,_⟩:=p; omega) (fun i s=> rfl)
 rw[this,ob]
theorem Ch.le{α:Type}{R:α→Int→Int→Prop}(hR:∀a s j,R a s j→s≤j):∀ {l:List α} {k m:Int},Ch R l k m→k≤m
 |_,_,_,.nil _=> Int.le_refl _
 |_,_,_,.cons p q=> Int.le_trans (hR _ _ _ p) (Ch.le hR q)
theorem Ch.upto{α:Type}{R:α→Int→Int→Prop}(hR:∀a s j,R a s j→s≤j):∀ {l:List α} {k m:Int},Ch R l k m→Ch (fun a s j=> R a s j∧j≤m) l k m
 |_,_,_,.nil k=> .nil k
 |_,_,_,.cons p q=> .cons ⟨p,Ch.le hR q⟩ (Ch.upto hR q)
theorem F59_held{l:List (List Int)}{k m:Int}(h:Mk2 l k m)(h0:0≤k)(h1:m≤4611686018427387904):F59 l k=some m:=by
 obtain⟨hl,h2,h3,hc⟩:=h;unfold F59;rw[held_loop (B:=F59_1_B l) (D:=F59_1_D l) (k:=k) (m:=m) hl (hc.upto fun a s j p=> p.2.1) (by
  rintro i hi s j hs ⟨p,hj⟩;unfold F59_1_B;have p2:=p.2.1;rw[getI_nat hi,ob,F32_held p (by omega) (by omega),ob,if_neg (by omega)]) (fun a s j p=> p.1.2.1) (fun i s=> rfl),ob]
structure MkC (y:GComplex) (k m:Int):Prop where
 ex:∃j,Mk1 y.Dims k j∧Mk3 y.Maps j m
theorem FM20_m{x:GComplex}(h:SmallC x){k:Int}(h0:0≤k)(h1:k≤1200000000000000000):∃y m,FM20 x k=some (y,m)∧k≤m∧m≤k+1152921504608000000∧MkC y k m:=by
 obtain⟨d,j,g1,g2⟩:=F31_mk h.d (k:=k) h0 (by omega);have b2:=g2.2.1;have b3:=g2.2.2.1;obtain⟨ms,m,k1,k2⟩:=F21_mk h.m h.r (k:=j) (by omega) (by omega);have b4:=k2.2.1;have b5:=k2.2.2.1;refine⟨⟨x.Prime,d,ms⟩,m,?_,by omega,by omega,⟨j,g2,k2⟩⟩;unfold FM20 F20;rw[g1,ob];simp only;rw[k1,ob,ob]
theorem SmallC.zero:SmallC (⟨0,[],[]⟩:GComplex):=⟨by simp,by simp,by simp⟩
theorem SmallF.zero:SmallF (⟨⟨0,[],[]⟩,[]⟩:GFiltered):=⟨.zero,by simp,by simp⟩
theorem tmod_pos{a p:Int}(h:0≤a):a.tmod p=a% p:=Int.tmod_eq_emod_of_nonneg h
theorem tmod_cg{a p:Int}:Cg p (a.tmod p) a:=⟨-(a.tdiv p),by have:=Int.tmod_add_mul_tdiv a p; grind⟩
theorem F127_eq{p x:Int}(hp:2≤p∧p≤7):F127 p x=some (x% p):=by
 have h1:=Int.tmod_lt_of_pos x (show 0 < p by omega);have h2: -p < x.tmod p:=by
  have h3:=Int.tmod_lt_of_pos (-x) (show 0 < p by omega);rw[Int.neg_tmod]at h3; omega
 unfold F127;rw[remI_ok (by omega),ob,chk_ok (by omega) (by omega),ob,remI_ok (by omega),ob,tmod_pos (by omega)]
 congr 1
 exact Cg.emod ((tmod_cg.add (Cg.refl p p)).trans ⟨1,by grind⟩)
theorem idx_loop{α:Type}{l:List α}(g:Nat→α→α){B:Int→List α→Option (List α⊕List α)}{D:Int→List α→Option (List α)}(hl:l.length≤1048576)
  (hB:∀ (i:Nat) (hi:i < l.length) (s:List α),s.length=l.length→(∀k,s[k]? =if k < i then(l[k]?).map (g k)else l[k]?)→B i s=some (.inl (s.set i (g i l[i])))) (hD:∀i s,D i s=some s):forR 0 (l.length:Int) B D l=some (l.mapIdx g):=by
 obtain⟨t,h1,h2⟩:=forR_inv (B:=B) (D:=D) l.length rfl (by omega) (fun i s=> s.length=l.length∧∀k,s[k]? =if k < i then(l[k]?).map (g k)else l[k]?) (fun t=> t=l.mapIdx g) (s:=l) ⟨rfl,fun k=> by simp⟩ (by
  rintro i s hi ⟨p1,p2⟩;left;refine⟨_,hB i hi s p1 p2,by rw[List.length_set]; exact p1,fun k=>?_⟩;rw[List.getElem?_set];by_cases e:i=k
  ·subst e; rw[if_pos rfl,if_pos (by omega),if_pos (by omega)]; simp[hi]
  ·rw[if_neg e,p2 k]
   by_cases q:k < i
   ·rw[if_pos q,if_pos (by omega)]
   ·rw[if_neg q,if_neg (by omega)]) (by
  rintro s ⟨p1,p2⟩;refine⟨s,hD _ _,?_⟩;apply List.ext_getElem?;intro k;rw[p2 k,List.getElem?_mapIdx];by_cases q:k < l.length
  ·rw[if_pos q]
  ·rw[if_neg q,List.getElem?_eq_none (by omega)]; rfl)
 rw[h1,h2]
theorem nth_get{v:List Int}{j:Nat}(h:j < v.length):getI v (j:Int)=some (nth v j):=by rw[getI_nat h,nth_lt h]
theorem rng_mul{p a b:Int}(hp:2≤p∧p≤7)(ha:0≤a∧a < p)(hb:0≤b∧b < p):0≤a*b∧a*b≤49:=by
 refine⟨Int.mul_nonneg ha.1 hb.1,?_⟩;have:=Int.mul_le_mul (show a≤7 by omega) (show b≤7 by omega) hb.1 (by decide);omega
theorem scl_loop{p k:Int}{w:Nat}(hp:2≤p∧p≤7)(hk:0≤k∧k < p){v:List Int}(hv:VecOK p w v)(hw:w≤1048576){B:Int→List Int→Option (List Int⊕List Int)}{D:Int→List Int→Option (List Int)}
  (hB:∀i row,B i row=(getI row i).bind fun x=>(chk (x*k)).bind fun m=>(remI m p).bind fun z=>(setI row i z).bind fun r=> some (.inl r)) (hD:∀i s,D i s=some s):forR 0 (v.length:Int) B D v=some (scl p v k):=by
 have hl:=hv.len;rw[idx_loop (fun _ x=> x*k% p) (by omega) (fun i hi s hs hk'=>?_) hD]
 ·congr 1
  apply List.ext_getElem <;> simp[scl]
 ·have h1:s[i]? =v[i]?:=by rw[hk' i,if_neg (Nat.lt_irrefl _)]
  have h2:s[i]'(by omega)=v[i]:=by
   have:=h1;rw[List.getElem?_eq_getElem (by omega),List.getElem?_eq_getElem hi]at this;exact Option.some.inj this
  have hr:=hv.rng i (by omega);rw[nth_lt hi]at hr;have hm:=rng_mul hp hr hk;rw[hB,getI_nat (show i < s.length by omega),ob,h2,chk_ok (by omega) (by omega),ob,remI_ok (by omega),ob,setI_nat (by omega),ob,tmod_pos hm.1]
theorem F136_eq{p k:Int}{w:Nat}(hp:2≤p∧p≤7)(hk:0≤k∧k < p){v u:List Int}(hv:VecOK p w v)(hu:VecOK p w u)(hw:w≤1048576):F136 p v u k=some (subv p v u k):=by
 have hl:=hv.len;have hul:=hu.len;have hsl:(subv p v u k).length=w:=by simp[subv,hl,hul]
 unfold F136;obtain⟨t,g1,g2⟩:=forR_inv (B:=F136_1_B p v u k) (D:=F136_1_D p v u k) v.length rfl (by omega) (fun i s=> s=(subv p v u k).take i) (fun t=> t=subv p v u k) (s:=[]) (by simp) (by
  rintro i s hi rfl;left;have hiw:i < w:=by omega
  have h1:=hv.rng i hiw;have h2:=hu.rng i hiw;have hm:=rng_mul hp hk h2;refine⟨(subv p v u k).take (i+1),?_,rfl⟩;unfold F136_1_B;rw[nth_get hi,ob,nth_get (by omega),ob,chk_ok (by omega) (by omega),ob,chk_ok (by omega) (by omega),ob,F127_eq hp,ob,app_ok (by simp; omega) (by simp; omega),ob]
  congr 2
  rw[←List.take_append_getElem (show i < (subv p v u k).length by omega)]
  congr 2
  have:=nth_sub (p:=p) (k:=k) hl hul hiw;rw[nth_lt (by omega)]at this;exact this.symm) (by
  rintro s rfl;refine⟨_,rfl,?_⟩;rw[List.take_of_length_le (by omega)])
 rw[g1,ob,g2]
theorem F81_ld{r:List Int}(hl:r.length≤1048576):F81 r=some (if ld r < r.length then(ld r:Int)else -1):=by
 unfold F81;obtain⟨t,g1,g2⟩:=forR_inv (B:=F81_1_B r) (D:=F81_1_D r) r.length rfl (by omega) (fun i _=> i≤ld r) (fun t=>(t= .inl ()∧r.length≤ld r)∨(t= .inr (ld r:Int)∧ld r < r.length)) (s:=()) (Nat.zero_le _) (by
  rintro i _ hi hI;unfold F81_1_B;rw[nth_get hi,ob];by_cases h:nth r i=0
  ·left
   rw[if_pos h];refine⟨(),rfl,?_⟩;rcases Nat.lt_or_ge i (ld r)with q|q
   ·exact q
   ·have:i=ld r:=by omega
    subst this;exact absurd h (ld_ne hi)
  ·right
   rw[if_neg h];refine⟨_,rfl,.inr ?_⟩;have:ld r=i:=by
    rcases Nat.lt_or_ge i (ld r)with q|q
    ·exact absurd (ld_zero q) h
    ·omega
   rw[this]; exact⟨rfl,hi⟩) (by
  rintro _ hI;exact⟨_,rfl,.inl ⟨rfl,hI⟩⟩)
 rw[g1,ob];rcases g2 with⟨rfl,h⟩|⟨rfl,h⟩
 ·rw[if_neg (by omega)]
 ·rw[if_pos h]
theorem inv_ex{p x:Int}(hp:IsP p)(h1:1≤x)(h2:x < p):∃m,1≤m∧m < p∧m*x% p=1:=by
 unfold IsP at hp;rcases hp with rfl|rfl|rfl|rfl
 ·obtain rfl:x=1:=by omega
  exact⟨1,by decide⟩
 ·have:x=1∨x=2:=by omega
  rcases this with rfl|rfl
  ·exact⟨1,by decide⟩
  ·exact⟨2,by decide⟩
 ·have:x=1∨x=2∨x=3∨x=4:=by omega
  rcases this with rfl|rfl|rfl|rfl
  ·exact⟨1,by decide⟩
  ·exact⟨3,by decide⟩
  ·exact⟨2,by decide⟩
  ·exact⟨4,by decide⟩
 ·have:x=1∨x=2∨x=3∨x=4∨x=5∨x=6:=by omega
  rcases this with rfl|rfl|rfl|rfl|rfl|rfl
  ·exact⟨1,by decide⟩
  ·exact⟨4,by decide⟩
  ·exact⟨5,by decide⟩
  ·exact⟨2,by decide⟩
  ·exact⟨3,by decide⟩
  ·exact⟨6,by decide⟩
theorem cg_one{p a:Int}(hp:2≤p∧p≤7)(h:a% p=1):Cg p a 1:=by
 have:=(Cg.mod p a).symm
 rwa[h]at this
theorem F135_eq{p x:Int}(hp:IsP p)(h1:1≤x)(h2:x < p):∃k,F135 p x=some k∧0≤k∧k < p∧Cg p (x*k) 1:=by
 have hr:=hp.range;obtain⟨m,m1,m2,m3⟩:=inv_ex hp h1 h2;obtain⟨n,hn⟩:∃n:Nat,p=n:=⟨p.toNat,by omega⟩;obtain⟨t,g1,k,rfl,g2,g3,g4⟩:=forR_from (B:=F135_1_B p x) (D:=F135_1_D p x) (lo:=1) (hi:=p) 1 n rfl hn (by omega) (by omega) (fun i _=> 1≤i∧∀j:Int,1≤j→j < i→j*x% p≠1) (fun t=>∃k:Int,t= .inr k∧0≤k∧k < p∧Cg p (x*k) 1) (s:=()) ⟨Nat.le_refl _,fun j a b=> by omega⟩ (by
  rintro i _ hi ⟨h0,hI⟩;unfold F135_1_B;have hm:=rng_mul hr (show 0≤(i:Int)∧(i:Int) < p by omega) (show 0≤x∧x < p by omega);rw[F127_eq hr,ob,Int.emod_eq_of_lt (show 0≤x by omega) h2,chk_ok (by omega) (by omega),ob,remI_ok (by omega),ob,tmod_pos hm.1];by_cases h:(i:Int)*x% p=1
  ·right
   rw[if_pos h];exact⟨_,rfl,_,rfl,by omega,by omega,by rw[Int.mul_comm]; exact cg_one hr h⟩
  ·left
   rw[if_neg h];refine⟨(),rfl,by omega,fun j a b=>?_⟩;by_cases e:j=i
   ·subst e; exact h
   ·exact hI j a (by omega)) (by
  rintro _ ⟨h0,hI⟩;exact absurd m3 (hI m m1 (by omega)))
 unfold F135;rw[g1,ob];exact⟨k,rfl,g2,g3,g4⟩
theorem F138_eq{p x:Int}(hp:IsP p)(h1:1≤x)(h2:x < p):∃k,F138 p x=some k∧0≤k∧k < p∧Cg p (x*k) 1:=by
 have hr:=hp.range;obtain⟨m,m1,m2,m3⟩:=inv_ex hp h1 h2;obtain⟨t,g1,g2,g3,g4⟩:=loopW_inv (S:=F138_1_S p x) (fun v=>(m - v).toNat) (fun v=> 1≤v∧v≤m) (fun t=> 0≤t∧t < p∧Cg p (x*t) 1) (s:=1) ⟨by decide,m1⟩ (by
  rintro v ⟨v1,v2⟩;unfold F138_1_S;have hm:=rng_mul hr (show 0≤v∧v < p by omega) (show 0≤x∧x < p by omega);rw[chk_ok (by omega) (by omega),ob,remI_ok (by omega),ob,tmod_pos hm.1];by_cases h:v*x% p=1
  ·right
   rw[if_pos h];exact⟨_,rfl,by omega,by omega,by rw[Int.mul_comm]; exact cg_one hr h⟩
  ·left
   have hne:v≠m:=fun e=> by rw[e]at h; exact h m3
   rw[if_neg h,chk_ok (by omega) (by omega),ob];exact⟨_,rfl,⟨by omega,by omega⟩,by omega⟩)
 unfold F138;rw[g1,ob];exact⟨t,rfl,g2,g3,g4⟩
theorem F139_eq{p k:Int}{w:Nat}(hp:2≤p∧p≤7)(hk:0≤k∧k < p){r o:List Int}(hr:VecOK p w r)(ho:VecOK p w o)(hw:w≤1048576):F139 r o p k=some (subv p r o k):=by
 have hl:=hr.len;have hol:=ho.len;unfold F139;rw[show(o.length:Int)=(r.length:Int) by omega,idx_loop (l:=r) (B:=F139_1_B o p k) (D:=F139_1_D) (fun i x=>(x - k*nth o i)% p) (by omega) (fun i hi s hs hk'=>?_) (fun i s=> rfl)]
 ·congr 1
  have hsl:(subv p r o k).length=w:=by simp[subv,hl,hol]
  apply List.ext_getElem (by simp[hl,hsl]);intro i h1 h2;have hi:i < w:=by omega
  have:=nth_sub (p:=p) (k:=k) hl hol hi;rw[nth_lt h2,nth_lt (show i < r.length by omega)]at this;rw[this]; simp
 ·have h1:s[i]? =r[i]?:=by rw[hk' i,if_neg (Nat.lt_irrefl _)]
  have h2:s[i]'(by omega)=r[i]:=by
   have:=h1;rw[List.getElem?_eq_getElem (by omega),List.getElem?_eq_getElem hi]at this;exact Option.some.inj this
  have a1:=hr.rng i (by omega);rw[nth_lt hi]at a1;have a2:=ho.rng i (by omega);have hm:0≤(p - k)*nth o i∧(p - k)*nth o i≤49:=by
   refine⟨Int.mul_nonneg (by omega) a2.1,?_⟩;have:=Int.mul_le_mul (show p - k≤7 by omega) (show nth o i≤7 by omega) a2.1 (by decide);omega
  unfold F139_1_B;rw[nth_get (by omega),ob,getI_nat (show i < s.length by omega),ob,h2,chk_ok (by omega) (by omega),ob,chk_ok (by omega) (by omega),ob,chk_ok (by omega) (by omega),ob,remI_ok (by omega),ob,setI_nat (by omega),ob,tmod_pos (by omega)]
  congr 3
  exact Cg.emod ⟨nth o i,by grind⟩
theorem F134_eq{p:Int}{w:Nat}(hp:2≤p∧p≤7){R:List (List Int)}(hR:Red p w R){v:List Int}(hv:VecOK p w v)(hw:w≤1048576)(hn:R.length≤1048576):F134 p R v=some (rest p R v):=by
 have hp0:0 < p:=by omega
 unfold F134;rw[F94_eq (by rw[hv.len]; exact hw),ob];have key:∀i,i≤R.length→VecOK p w (rest p (R.take i) v):=fun i _=> rest_ok hp0 (fun r hr=> hR.ok r (List.mem_of_mem_take hr)) hv;obtain⟨t,g1,g2⟩:=forR_inv (B:=F134_1_B p R) (D:=F134_1_D p R) R.length rfl (by omega) (fun i s=> s=rest p (R.take i) v) (fun t=> t=rest p R v) (s:=v) rfl (by
  rintro i s hi rfl;left;refine⟨_,?_,rfl⟩;have hk:=key i (by omega);have hm:=List.getElem_mem hi;have hok:=hR.ok _ hm;have hone:=hR.one _ hm;unfold F134_1_B;rw[getI_nat hi,ob,F81_ld (by rw[hok.len]; exact hw),if_pos (by rw[hok.len]; exact hone.1),ob,nth_get (by rw[hk.len]; exact hone.1),ob,F136_eq hp (hk.rng _ hone.1) hk hok hw,ob]
  congr 2
  rw[←List.take_append_getElem hi];unfold rest;rw[List.foldl_append]; rfl) (by
  rintro s rfl;exact⟨_,rfl,by rw[List.take_length]⟩)
 rw[g1,ob,g2]
theorem ins_cons{p:Int}{own:List Int}{a:Nat}{o:List Int}{out:List (List Int)}:ins p own a (o::out)=if a < ld o then own::insF p own a o::out.map (insF p own a)else insF p own a o::ins p own a out:=rfl
theorem F131_3_eq{p:Int}{w a:Nat}(hp:2≤p∧p≤7){out:List (List Int)}{own:List Int}(hR:Red p w out)(n:New p w out own a)(hw:w≤1048576)(hn:out.length≤1000000):
  ∃nx put,forR 0 (out.length:Int) (F131_3_B p out own a) F131_3_D ([],false)=some (nx,put)∧(if put=true then nx else nx++[own])=ins p own a out∧nx.length≤2000000:=by
 obtain⟨t,g1,g2,g3⟩:=forR_inv (B:=F131_3_B p out own a) (D:=F131_3_D) out.length rfl (by omega) (fun i s=> s.1.length≤2*i∧(s.2=true→s.1++(out.drop i).map (insF p own a)=ins p own a out)∧(s.2=false→s.1++ins p own a (out.drop i)=ins p own a out))
  (fun t=>(if t.2=true then t.1 else t.1++[own])=ins p own a out∧t.1.length≤2000000) (s:=([],false)) ⟨by simp,by simp,by simp⟩ (by
  rintro i ⟨nx,put⟩ hi ⟨p1,p2,p3⟩;simp only at p1 p2 p3;left;have hm:=List.getElem_mem hi;have hok:=hR.ok _ hm;have hone:=hR.one _ hm;have hr:=hok.rng a n.lt;have hq:F136 p out[i] own (nth out[i] a)=some (insF p own a out[i]):=F136_eq hp hr hok n.ok hw;rw[List.drop_eq_getElem_cons hi]at p2 p3;unfold F131_3_B F131_3_C;simp only;cases put with
  |true=>
   have e:=p2 rfl;rw[if_pos rfl,ob,if_neg Bool.false_ne_true,ob,getI_nat hi,ob,nth_get (by rw[hok.len]; exact n.lt),ob,hq,ob,app_ok (by simp; omega) (by simp; omega),ob];exact⟨_,rfl,by simp; omega,fun _=> by rw[←e]; simp only[List.map_cons,List.append_assoc,List.cons_append,List.nil_append],fun h=> by cases h⟩
  |false=>
   have e:=p3 rfl;rw[if_neg Bool.false_ne_true,getI_nat hi,ob,F81_ld (by rw[hok.len]; exact hw),if_pos (by rw[hok.len]; exact hone.1),ob,ob];by_cases h:a < ld out[i]
   ·have hd:decide ((a:Int) < (ld out[i]:Int))=true:=by simpa using h
    rw[ins_cons,if_pos h]at e;rw[hd,if_pos rfl,app_ok (by simp; omega) (by simp; omega),ob,ob,ob,nth_get (by rw[hok.len]; exact n.lt),ob,hq,ob,app_ok (by simp; omega) (by simp; omega),ob];exact⟨_,rfl,by simp; omega,fun _=> by rw[←e]; simp only[List.map_cons,List.append_assoc,List.cons_append,List.nil_append],fun h=> by cases h⟩
   ·have hd:decide ((a:Int) < (ld out[i]:Int))=false:=by simpa using h
    rw[ins_cons,if_neg h]at e;rw[hd,if_neg Bool.false_ne_true,ob,ob,nth_get (by rw[hok.len]; exact n.lt),ob,hq,ob,app_ok (by simp; omega) (by simp; omega),ob];exact⟨_,rfl,by simp; omega,(fun h=> by cases h),fun _=> by rw[←e]; simp only[List.append_assoc,List.cons_append,List.nil_append]⟩) (by
  rintro⟨nx,put⟩ ⟨p1,p2,p3⟩;simp only at p1 p2 p3;refine⟨_,rfl,?_,by simp only; omega⟩;rw[List.drop_length]at p2 p3;cases put with
  |true=> simpa using p2 rfl
  |false=> simpa[ins]using p3 rfl)
 exact⟨t.1,t.2,g1,g2,g3⟩
theorem F131_ech{p:Int}{w:Nat}(hp:IsP p){rows:List (List Int)}(hr:Rows p w rows)(hw:w≤1048576)(hn:rows.length≤1000000):∃out,F131 p rows=some out∧EchOf p w rows out:=by
 have hpr:=hp.range;have hp1:1 < p:=by omega
 obtain⟨t,g1,g2,g3⟩:=forR_inv (B:=F131_1_B p rows) (D:=F131_1_D) rows.length rfl (by omega) (fun i s=> EchOf p w (rows.take i) s∧s.length≤i) (fun t=> EchOf p w rows t∧t.length≤rows.length) (s:=[]) ⟨.nil p w,Nat.le_refl _⟩ (by
  rintro i out hi ⟨p1,p2⟩;left;have hrow:=hr _ (List.getElem_mem hi);have hrt:Rows p w (rows.take i):=fun r h=> hr r (List.mem_of_mem_take h);have hrest:=rest_ok (show 0 < p by omega) p1.red.ok hrow;have hl:¬(ld (rest p out rows[i]) < w)∨ld (rest p out rows[i]) < w:=by omega
  unfold F131_1_B;rw[getI_nat hi,ob,F134_eq hpr p1.red hrow hw (by omega),ob,F81_ld (by rw[hrest.len]; exact hw),ob,hrest.len];rcases hl with hl|hl
  ·rw[if_neg hl,if_pos (by decide)]
   refine⟨out,rfl,?_,by omega⟩;rw[←List.take_append_getElem hi];exact p1.skip hp1 hrt hrow fun j hj=> ld_zero (by omega)
  ·rw[if_pos hl,if_neg (by omega)]
   have hne:=ld_ne (r:=rest p out rows[i]) (by rw[hrest.len]; exact hl);have hrg:=hrest.rng _ hl;obtain⟨k,k1,k2,k3,k4⟩:=F135_eq hp (x:=nth (rest p out rows[i]) (ld (rest p out rows[i]))) (by omega) hrg.2;have n:=p1.new hp1 hrow hl (fun j hj=> ld_zero hj) k4;obtain⟨nx,put,q1,q2,q3⟩:=F131_3_eq hpr p1.red n hw (by omega);have hlen:((rest p out rows[i]).length:Int)=(w:Int):=by rw[hrest.len]
   have hsc:=scl_loop hpr ⟨k2,k3⟩ hrest hw (B:=F131_2_B p k) (D:=F131_2_D) (fun i row=> rfl) (fun i s=> rfl);have hput:=p1.put hp1 hrt hrow hl (fun j hj=> ld_zero hj) k4;rw[List.take_append_getElem hi]at hput;rw[nth_get (by rw[hrest.len]; exact hl),ob,k1,ob,←hlen,hsc,ob,q1,ob];simp only;cases put with
   |true=>
    rw[if_pos rfl]at q2 ⊢;rw[q2];exact⟨_,rfl,hput,by rw[ins_len]; omega⟩
   |false=>
    rw[if_neg Bool.false_ne_true]at q2 ⊢;rw[app_ok (by simp; omega) (by simp; omega),ob,q2];exact⟨_,rfl,hput,by rw[ins_len]; omega⟩) (by
  rintro out ⟨p1,p2⟩;rw[List.take_length]at p1;exact⟨_,rfl,p1,p2⟩)
 exact⟨t,g1,g2⟩
theorem F128_first{l:List (List Int)}{f:List Int→Option Bool}(P:List Int→Bool)(hl:l.length≤1048576)(hf:∀x∈l,f x=some (P x)):∃i:Int,F128 l f=some i∧((i= -1∧∀x∈l,P x=false)∨∃m:Nat,i=m∧m < l.length∧P (rowAt l m)=true):=by
 unfold F128;obtain⟨t,h1,h2⟩:=forR_inv (B:=F128_1_B l f) (D:=F128_1_D l f) (hi:=l.length) l.length rfl (by omega) (fun i _=>∀k (hk:k < i) (h2:k < l.length),P l[k]=false) (fun t=>(t= .inl ()∧∀x∈l,P x=false)∨∃m:Nat,t= .inr (m:Int)∧m < l.length∧P (rowAt l m)=true) (s:=()) (fun k hk=> by omega) (by
  intro i _ hi hI;unfold F128_1_B;rw[getI_nat hi,ob,hf _ (List.getElem_mem hi),ob];cases hp:P l[i]with
  |true=> right; exact⟨_,rfl,.inr ⟨i,rfl,hi,by rw[rowAt_lt hi]; exact hp⟩⟩
  |false=>
   left;refine⟨(),rfl,fun k hk h2=>?_⟩;by_cases e:k=i
   ·subst e; exact hp
   ·exact hI k (by omega) h2) (by
  intro _ hI;refine⟨.inl (),rfl,.inl ⟨rfl,fun x hx=>?_⟩⟩;obtain⟨k,hk,rfl⟩:=List.getElem_of_mem hx;exact hI k hk hk)
 rw[h1,ob];rcases h2 with⟨rfl,h2⟩|⟨m,rfl,h2⟩
 ·exact⟨_,rfl,.inl ⟨rfl,h2⟩⟩
 ·exact⟨_,rfl,.inr ⟨m,rfl,h2⟩⟩
theorem gstep_loop{p:Int}{w c d:Nat}(hp:2≤p∧p≤7){l:List (List Int)}{row:List Int}(hl:Rows p w l)(hd:d < l.length)(hrow:rowAt l d=row)(hc:c < w)(hw:w≤1048576)(hn:l.length≤1000000):
  forR 0 (l.length:Int) (F133_4_B p c d) F133_4_D l=some (gstep p c d row l):=by
 have hdr:=hl _ (row_mem hd);rw[hrow]at hdr;rw[idx_loop (l:=l) (B:=F133_4_B p c d) (D:=F133_4_D) (fun i r=> if i=d then r else subv p r row (nth r c)) (by omega) (fun i hi s hs hk=>?_) (fun i s=> rfl)]
 ·unfold gstep
  congr 1
  have:l.set d row=l:=by
   rw[←hrow,rowAt_lt hd]; exact List.set_getElem_self hd
  rw[this]
 ·have h1:s[i]'(by omega)=l[i]:=by
   have:=hk i;rw[if_neg (Nat.lt_irrefl _),List.getElem?_eq_getElem (by omega),List.getElem?_eq_getElem hi]at this;exact Option.some.inj this
  have h2:s[d]'(by omega)=row:=by
   have:=hk d;rw[List.getElem?_eq_getElem (by omega),List.getElem?_eq_getElem hd]at this;rw[←hrow,rowAt_lt hd];split at this
   ·simpa using this
   ·exact Option.some.inj this
  unfold F133_4_B;by_cases e:i=d
  ·subst e
   rw[if_pos rfl,if_pos rfl,←h1,List.set_getElem_self]
  ·have hr:=hl _ (List.getElem_mem hi)
   have hrc:=hr.rng c hc;rw[if_neg (by omega),if_neg e,getI_nat (show i < s.length by omega),ob,getI_nat (show d < s.length by omega),ob,h1,h2,nth_get (by rw[hr.len]; exact hc),ob,F139_eq hp hrc hr hdr hw,ob,setI_nat (by omega),ob]
theorem F133_ech{p:Int}{w:Nat}(hp:IsP p){rows:List (List Int)}(hr:Rows p w rows)(hw:w≤1048576)(hn:rows.length≤1000000):∃out,F133 p rows=some out∧EchOf p w rows out:=by
 have hpr:=hp.range;have hp1:1 < p:=by omega
 unfold F133;rw[cpy_loop (l:=rows) (B:=F133_1_B rows) (D:=F133_1_D) (by omega) (fun i hi s hs=> by
  unfold F133_1_B;have:=hr _ (List.getElem_mem hi);rw[getI_nat hi,ob,F96_eq (by rw[this.len]; exact hw),ob,app_ok (by simp; omega) (by simp; omega),ob]) (fun i s=> rfl),ob]
 by_cases h0:(rows.length:Int)=0
 ·rw[if_pos h0]
  have:rows=[]:=List.eq_nil_of_length_eq_zero (by omega);subst this;exact⟨_,rfl,.nil p w⟩
 rw[if_neg h0];have hpos:0 < rows.length:=by omega
 have e0:=getI_nat hpos;simp only[Int.natCast_zero]at e0;have hw0:=(hr _ (List.getElem_mem hpos)).len;rw[show(0:Int)=((0:Nat):Int) from rfl,getI_nat hpos,ob];obtain⟨t,g1,g2,g3,g4⟩:=forR_inv (B:=F133_2_B p) (D:=F133_2_D) (hi:=(rows[0].length:Int)) w (by rw[hw0]) (by omega) (fun c s=>∃d:Nat,s.2=d∧d < s.1.length∧s.1.length=rows.length∧GInv p w rows c s.1 d)
  (fun t=> EchOf p w rows (t.1.take t.2.toNat)∧0≤t.2∧t.2≤t.1.length) (s:=(rows,0)) ⟨0,rfl,hpos,rfl,.start hr⟩ (by
  rintro c ⟨l,dd⟩ hc ⟨d,p1,p2,p3,g⟩;simp only at p1 p2 p3 g;subst p1;have hrl:∀x∈l.drop d,(fun r=> F137 r (c:Int)) x=some (!decide (nth x c=0)):=fun x hx=> by
   have hx':=g.ok x (List.mem_of_mem_drop hx);show F137 x c=_;unfold F137;rw[nth_get (by rw[hx'.len]; exact hc),ob]
  obtain⟨at_,a1,a2⟩:=F128_first (fun x=> !decide (nth x c=0)) (l:=l.drop d) (by simp; omega) hrl;unfold F133_2_B;simp only;rw[if_pos ⟨by omega,by omega⟩,Int.toNat_natCast,a1,ob];rcases a2 with⟨rfl,a2⟩|⟨m,rfl,a2,a3⟩
  ·rw[if_pos (by decide)]
   left;refine⟨_,rfl,d,rfl,p2,p3,g.skip hc fun i h1 h2=>?_⟩;have hx:rowAt l i∈l.drop d:=by
    rw[rowAt_lt h2,List.mem_iff_getElem];exact⟨i - d,by simp; omega,by simp[show d+(i - d)=i by omega]⟩
   simpa using a2 _ hx
  ·have hml:m < l.length - d:=by simpa using a2
   have hj:d+m < l.length:=by omega
   have hrm:rowAt (l.drop d) m=rowAt l (d+m):=by rw[rowAt_lt a2,rowAt_lt hj,List.getElem_drop]
   rw[hrm]at a3;have hne:nth (rowAt l (d+m)) c≠0:=by simpa using a3
   have hrj:=g.ok _ (row_mem hj);have hrg:=hrj.rng c hc;obtain⟨k,k1,k2,k3,k4⟩:=F138_eq hp (x:=nth (rowAt l (d+m)) c) (by omega) hrg.2
   -- the swapped list
   have h2l:((l.set d (rowAt l (d+m))).set (d+m) (rowAt l d)).length=l.length:=by simp
   have h2:∀i,i < l.length→rowAt ((l.set d (rowAt l (d+m))).set (d+m) (rowAt l d)) i=rowAt l (if i=d+m then d else if i=d then d+m else i):=fun i hi=> by
    rw[rowAt_lt (by simp; exact hi)];by_cases e:i=d+m
    ·subst e; rw[if_pos rfl]; simp
    ·rw[if_neg e,List.getElem_set_ne (Ne.symm e)]
     by_cases e2:i=d
     ·subst e2; rw[if_pos rfl]; simp
     ·rw[if_neg e2,List.getElem_set_ne (Ne.symm e2),rowAt_lt hi]
   have gp:=g.put hp1 hc (show d≤d+m by omega) hj k4 h2l h2;have hrd:rowAt ((l.set d (rowAt l (d+m))).set (d+m) (rowAt l d)) d=rowAt l (d+m):=by
    rw[h2 d p2];by_cases e:d=d+m
    ·rw[if_pos e,←e]
    ·rw[if_neg e,if_pos rfl]
   generalize hl2:(l.set d (rowAt l (d+m))).set (d+m) (rowAt l d)=l2 at*;have hsc:=scl_loop hpr ⟨k2,k3⟩ hrj hw (B:=F133_3_B p k) (D:=F133_3_D) (fun i row=> rfl) (fun i s=> rfl);have ok2:Rows p w (l2.set d (scl p (rowAt l (d+m)) k)):=fun r hr'=> by
    rcases List.mem_or_eq_of_mem_set hr' with q|q
    ·obtain⟨i,hi,rfl⟩:=mem_row.1 q
     rw[h2 i (by omega)];refine g.ok _ (row_mem ?_);split
     ·exact p2
     ·split
      ·exact hj
      ·omega
    ·rw[q]; exact scl_ok (by omega) hrj k
   have hs3:(l2.set d (scl p (rowAt l (d+m)) k)).length=l.length:=by simp[h2l]
   have hr3:rowAt (l2.set d (scl p (rowAt l (d+m)) k)) d=scl p (rowAt l (d+m)) k:=by rw[rowAt_lt (by omega)]; simp
   have hgl:=gstep_loop hpr ok2 (show d < _ by omega) hr3 hc hw (by omega);have hgs:gstep p c d (scl p (rowAt l (d+m)) k) (l2.set d (scl p (rowAt l (d+m)) k))=gstep p c d (scl p (rowAt l (d+m)) k) l2:=by unfold gstep; rw[List.set_set]
   rw[hgs]at hgl;have hlen4:(gstep p c d (scl p (rowAt l (d+m)) k) l2).length=l.length:=by rw[gstep_len]; exact h2l
   have e1:getI l ((d+m:Nat):Int)=some (rowAt l (d+m)):=by rw[getI_nat hj,rowAt_lt hj]
   have e2:getI l (d:Int)=some (rowAt l d):=by rw[getI_nat p2,rowAt_lt p2]
   have e3:getI l2 (d:Int)=some (rowAt l (d+m)):=by rw[getI_nat (by omega),←rowAt_lt (by omega),hrd]
   rw[if_neg (by omega),chk_ok (by omega) (by omega),ob,show(d:Int)+(m:Int)=((d+m:Nat):Int) by omega,e1,ob,e2,ob,setI_nat p2,ob,setI_nat (by simp; omega),ob,hl2,e3,ob,
    nth_get (by rw[hrj.len]; exact hc),ob,k1,ob,hsc,ob,setI_nat (by omega),ob,hgl,ob,chk_ok (by omega) (by omega),ob]
   by_cases hd1:(d:Int)+1=((gstep p c d (scl p (rowAt l (d+m)) k) l2).length:Int)
   ·right
    rw[if_pos hd1];refine⟨_,rfl,?_,by simp only; omega,by simp only; omega⟩;simp only;rw[show((d:Int)+1).toNat=d+1 by omega];exact gp.done hp1 (.inr (by omega))
   ·left
    rw[if_neg hd1];refine⟨_,rfl,d+1,by simp only; omega,by simp only; have:=gp.dn; omega,by simp only; omega,gp⟩) (by
  rintro⟨l,dd⟩ ⟨d,p1,p2,p3,g⟩;simp only at p1 p2 p3 g;subst p1;refine⟨_,rfl,?_,by simp only; omega,by simp only; omega⟩;simp only;rw[Int.toNat_natCast];exact g.done hp1 (.inl rfl))
 rw[show((0:Nat):Int)=(0:Int) from rfl,g1,ob,if_pos ⟨g3,g4⟩];exact⟨_,rfl,g2⟩
theorem reduce_same{p:Int}{w:Nat}(hp:IsP p){rows:List (List Int)}(hr:Rows p w rows)(hw:w≤1048576)(hn:rows.length≤1000000):∃out,F131 p rows=some out∧F133 p rows=some out∧EchOf p w rows out:=by
 obtain⟨a,a1,a2⟩:=F131_ech hp hr hw hn;obtain⟨b,b1,b2⟩:=F133_ech hp hr hw hn;have:=a2.same (by have:=hp.range; omega) b2;subst this;exact⟨a,a1,b1,a2⟩
theorem F133_self{p:Int}{w:Nat}(hp:IsP p){E:List (List Int)}(h:Red p w E)(hw:w≤1048576)(hn:E.length≤1000000):F133 p E=some E:=by
 obtain⟨X, -,x2,x3⟩:=reduce_same hp h.ok hw hn;rw[x2,x3.same (by have:=hp.range; omega) (EchOf.self h)]
theorem red_len{p:Int}{w:Nat}{E:List (List Int)}(h:Red p w E):E.length≤w:=by
 have h1:=h.leads;have key:∀ (l:List Nat) (b:Nat),l.Pairwise (·< ·)→(∀x∈l,b≤x∧x < w)→l.length+b≤max w b:=by
  intro l;induction l with
  |nil=> intro b _ _; simp; omega
  |cons a l ih=>
   intro b hp hx;obtain⟨p1,p2⟩:=List.pairwise_cons.1 hp;have ha:=hx a List.mem_cons_self;have:=ih (a+1) p2 fun x hx'=>⟨p1 x hx',(hx x (List.mem_cons_of_mem _ hx')).2⟩;simp only[List.length_cons];omega
 have:=key (E.map ld) 0 h1 fun x hx=> by
  obtain⟨r,hr,rfl⟩:=List.mem_map.1 hx;exact⟨Nat.zero_le _,(h.one r hr).1⟩
 simpa using this
theorem set_app_right{r s:List Int}{i:Nat}(x:Int):(r++s).set (r.length+i) x=r++s.set i x:=by
 rw[List.set_append_right _ _ (by omega)]; simp
theorem F125_1_eq{p:Int}{w:Nat}{rows:List (List Int)}(hr:Rows p w rows){x2:List Int}(hx:x2.length=w)(hw:w≤1000)(hn:rows.length≤1000):
  forR 0 (rows.length:Int) (F125_1_B p rows x2) (F125_1_D p rows x2) []=some (longs rows.length rows):=by
 have hl:=longs_len rows.length rows;obtain⟨t,g1,g2⟩:=forR_inv (B:=F125_1_B p rows x2) (D:=F125_1_D p rows x2) rows.length rfl (by omega) (fun i s=> s=(longs rows.length rows).take i) (fun t=> t=longs rows.length rows) (s:=[]) (by simp) (by
  rintro i s hi rfl;left;have hri:=hr _ (List.getElem_mem hi);refine⟨(longs rows.length rows).take (i+1),?_,rfl⟩;unfold F125_1_B appZ;have hz:List.replicate ((rows.length:Int)).toNat (0:Int)=zv rows.length:=by simp[zv]
  have hzl:(zv rows.length).length=rows.length:=by simp[zv]
  have e:((x2.length:Int)+(i:Int))=((rows[i].length+i:Nat):Int):=by rw[hx,hri.len]; omega
  rw[getI_nat hi,ob,F96_eq (by rw[hri.len]; omega),ob,if_pos ⟨by omega,by omega,by omega⟩,hz,app_ok (by rw[hri.len,hzl]; omega) (by rw[hri.len,hzl]; omega),ob,chk_ok (by rw[hx]; omega) (by rw[hx]; omega),ob,e,getI_nat (by rw[List.length_append,hzl]; omega),ob,
   setI_nat (by rw[List.length_append,hzl]; omega),ob,app_ok (by simp; omega) (by simp; omega),ob,set_app_right]
  congr 2
  rw[←List.take_append_getElem (show i < (longs rows.length rows).length by omega),longs_at,rowAt_lt hi];rfl) (by
  rintro s rfl;exact⟨_,rfl,by rw[List.take_of_length_le (by omega)]⟩)
 rw[g1,g2]
theorem F122_1_eq{p:Int}{w:Nat}{rows:List (List Int)}(hr:Rows p w rows)(hw:w≤1000)(hn:rows.length≤1000):
  forR 0 (rows.length:Int) (F122_1_B p rows.length rows) (F122_1_D p rows.length rows) ([],0)=some (longs rows.length rows,if rows.length=0 then 0 else(w:Int)):=by
 have hl:=longs_len rows.length rows;obtain⟨t,g1,g2⟩:=forR_inv (B:=F122_1_B p rows.length rows) (D:=F122_1_D p rows.length rows) rows.length rfl (by omega) (fun i s=> s=((longs rows.length rows).take i,if i=0 then 0 else(w:Int))) (fun t=> t=(longs rows.length rows,if rows.length=0 then 0 else(w:Int))) (s:=([],0)) (by simp) (by
  rintro i s hi rfl;left;have hri:=hr _ (List.getElem_mem hi);refine⟨((longs rows.length rows).take (i+1),if i+1=0 then 0 else(w:Int)),?_,rfl⟩;unfold F122_1_B;simp only;have hzl:(zv rows.length).length=rows.length:=by simp[zv]
  rw[mkL_ok rows.length rfl (by omega) (by omega),ob]
  change (getI (zv rows.length) (i:Int)).bind _=_
  rw[getI_nat (by omega),ob]
  change (setI (zv rows.length) (i:Int) 1).bind _=_
  rw[setI_nat (by omega),ob,getI_nat hi,ob,F94_eq (by rw[hri.len]; omega),ob,app_ok (by simp[zv,hri.len]; omega) (by simp[zv,hri.len]; omega),ob,app_ok (by simp; omega) (by simp; omega),ob,if_neg (by omega),hri.len]
  congr 3
  rw[←List.take_append_getElem (show i < (longs rows.length rows).length by omega),longs_at,rowAt_lt hi];rfl) (by
  rintro s rfl;exact⟨_,rfl,by rw[List.take_of_length_le (by omega)]⟩)
 rw[g1,g2]
theorem tails_take{w i:Nat}{E:List (List Int)}(hi:i < E.length):tails w (E.take (i+1))=if w≤ld E[i]then tails w (E.take i)++[E[i].drop w]else tails w (E.take i):=by
 unfold tails;rw[←List.take_append_getElem hi,List.filter_append,List.map_append];by_cases h:w≤ld E[i]
 ·rw[if_pos h]; simp[h]
 ·rw[if_neg h]; simp[h]
theorem tails_len{w:Nat}{E:List (List Int)}:(tails w E).length≤E.length:=by
 unfold tails;rw[List.length_map]; exact List.length_filter_le _ _
theorem F122_2_eq{p:Int}{w n:Nat}{E:List (List Int)}(h:Red p (w+n) E)(hw:w+n≤10000):
  forR 0 (E.length:Int) (F122_2_B w E) (F122_2_D w E) []=some (tails w E):=by
 have hE:=red_len h;obtain⟨t,g1,g2⟩:=forR_inv (B:=F122_2_B w E) (D:=F122_2_D w E) E.length rfl (by omega) (fun i s=> s=tails w (E.take i)) (fun t=> t=tails w E) (s:=[]) (by simp[tails]) (by
  rintro i s hi rfl;left;have hk:=h.ok _ (List.getElem_mem hi);have ho:=h.one _ (List.getElem_mem hi);have htl:(tails w (E.take i)).length≤10000:=by have:=tails_len (w:=w) (E:=E.take i); simp at this; omega
  refine⟨tails w (E.take (i+1)),?_,rfl⟩;rw[tails_take hi];unfold F122_2_B;rw[getI_nat hi,ob,F81_ld (by rw[hk.len]; omega),if_pos (by rw[hk.len]; exact ho.1),ob];by_cases q:w≤ld E[i]
  ·rw[if_pos (by omega),if_pos q]
   unfold slI;rw[if_pos ⟨by omega,by rw[hk.len]; omega,Int.le_refl _⟩,ob,Int.toNat_natCast,Int.toNat_natCast,List.take_length,F94_eq (by simp[hk.len]; omega),ob,app_ok (by simp; omega) (by simp; omega),ob]
  ·rw[if_neg (by omega),if_neg q]) (by
  rintro s rfl;exact⟨_,rfl,by rw[List.take_length]⟩)
 rw[g1,g2]
theorem isZero_take{r:List Int}{w:Nat}(h:w≤r.length):(∀x∈r.take w,x=0)↔w≤ld r:=by
 constructor
 ·intro hx
  refine Nat.le_of_not_lt fun q=>?_;have hl:ld r < r.length:=by omega
  refine ld_ne hl (by rw[nth_lt hl]; exact hx _ (List.mem_take_iff_getElem.2 ⟨ld r,by omega,rfl⟩))
 ·intro q x hx
  obtain⟨i,hi,rfl⟩:=List.mem_take_iff_getElem.1 hx;have:=ld_zero (r:=r) (j:=i) (by omega)
  rwa[nth_lt (by omega)]at this
theorem F125_2_eq{p:Int}{w n:Nat}{E:List (List Int)}(h:Red p (w+n) E)(hw:w+n≤10000){x2:List Int}(hx:x2.length=w):
  forR 0 (E.length:Int) (F125_2_B p x2 E) (F125_2_D p x2 E) []=some (tails w E):=by
 have hE:=red_len h;obtain⟨t,g1,g2⟩:=forR_inv (B:=F125_2_B p x2 E) (D:=F125_2_D p x2 E) E.length rfl (by omega) (fun i s=> s=tails w (E.take i)) (fun t=> t=tails w E) (s:=[]) (by simp[tails]) (by
  rintro i s hi rfl;left;have hk:=h.ok _ (List.getElem_mem hi);have ho:=h.one _ (List.getElem_mem hi);have htl:(tails w (E.take i)).length≤10000:=by have:=tails_len (w:=w) (E:=E.take i); simp at this; omega
  refine⟨tails w (E.take (i+1)),?_,rfl⟩;rw[tails_take hi];unfold F125_2_B slI;rw[getI_nat hi,ob,hx,if_pos ⟨by omega,by omega,by rw[hk.len]; omega⟩,ob,Int.toNat_natCast,Int.toNat_zero,List.drop_zero];rcases((F92_tells (l:=E[i].take w) (by simp; omega)).iff (isZero_take (by rw[hk.len]; omega))).case with⟨e,q⟩|⟨e,q⟩
  ·rw[e,ob,if_pos rfl,if_pos q,if_pos ⟨by omega,by rw[hk.len]; omega,Int.le_refl _⟩,ob,Int.toNat_natCast,List.take_length,app_ok (by simp; omega) (by simp; omega),ob]
  ·rw[e,ob,if_neg Bool.false_ne_true,if_neg q]) (by
  rintro s rfl;exact⟨_,rfl,by rw[List.take_length]⟩)
 rw[g1,g2]
theorem RowOK.vec{p w:Int}{row:List Int}(h:RowOK p w row):VecOK p w.toNat row:=by
 have h1:=h.1;refine⟨by omega,fun j hj=>?_⟩;have hj':j < row.length:=by omega
 rw[nth_lt hj'];have:=h.2 _ (List.getElem_mem hj');omega
theorem ValidC.dim{x:GComplex}(h:ValidC x){n:Nat}(hn:n < x.Dims.length):0≤x.Dims.getD n 0∧x.Dims.getD n 0≤8:=h.dims _ (getD_mem hn 0)
theorem F99_at{x:GComplex}(hs:x.Dims.length≤1048576){n:Nat}(hn:n < x.Dims.length):F99 x (n:Int)=some (x.Dims.getD n 0):=by
 unfold F99;rw[chk_ok (by omega) (by omega),ob,F54_eq,ob,if_pos (by simp; omega),getI_getD hn 0,ob]
theorem F102_at{x:GComplex}(hs:x.Dims.length≤1048576){n:Nat}(hn:n < x.Dims.length):F102 x (n:Int)=some (x.Dims.getD n 0):=by
 unfold F102;rw[F86_eq hs,ob,F56_eq,ob,if_pos (by simp; omega),getI_getD hn 0,ob]
theorem F124_eq{n:Nat}(hn:n≤1000):F124 (n:Int)=some (units n):=by
 unfold F124;have hl:=units_len n;obtain⟨t,g1,g2⟩:=forR_inv (B:=F124_1_B (n:Int)) (D:=F124_1_D (n:Int)) n rfl (by omega) (fun i s=> s=(units n).take i) (fun t=> t=units n) (s:=[]) (by simp) (by
  rintro i s hi rfl;left;refine⟨(units n).take (i+1),?_,rfl⟩;have hzl:(zv n).length=n:=by simp[zv]
  unfold F124_1_B F132;rw[mkL_ok n rfl (by omega) (by omega),ob]
  change (((getI (zv n) (i:Int)).bind _).bind _=_)
  rw[getI_nat (by omega),ob]
  change (((setI (zv n) (i:Int) 1).bind _).bind _=_)
  rw[setI_nat (by omega),ob,ob,app_ok (by simp; omega) (by simp; omega),ob]
  congr 2
  rw[←List.take_append_getElem (show i < (units n).length by omega)]
  congr 2
  simp[units,unitv]) (by
  rintro s rfl;exact⟨_,rfl,by rw[List.take_of_length_le (by omega)]⟩)
 rw[g1,ob,g2]
theorem kernel_none{p:Int}(hp:IsP p){n:Nat}(hn:n≤1000):F122 p (n:Int) (List.replicate n [])=some (units n):=by
 have hp1:1 < p:=by have:=hp.range; omega
 have hr:Rows p 0 (List.replicate n ([]:List Int)):=fun r hr=> by
  obtain⟨_,rfl⟩:=List.mem_replicate.1 hr;exact⟨rfl,fun j hj=> absurd hj (Nat.not_lt_zero _)⟩
 have hl:(List.replicate n ([]:List Int)).length=n:=by simp
 have e0:=F122_1_eq hr (by omega) (by omega);rw[hl]at e0;have hlong:longs n (List.replicate n ([]:List Int))=units n:=by
  unfold longs units;refine List.map_congr_left fun i hi=>?_;have:i < n:=List.mem_range.1 hi;simp[rowAt,this]
 have hu:=units_red hp1 n;obtain⟨E,e1, -,e3⟩:=reduce_same hp hu.ok (by omega) (by rw[units_len]; omega);have hE:=e3.same hp1 (EchOf.self hu);subst hE;have ht:tails 0 (units n)=units n:=by
  unfold tails;rw[List.filter_eq_self.2 (fun r _=> by simp)]
  conv=> rhs; rw[←List.map_id (units n)]
  exact List.map_congr_left fun r _=> rfl
 have h2:=F122_2_eq (w:=0) (n:=n) (by rw[Nat.zero_add]; exact hu) (by omega);rw[ht]at h2;have h2':forR 0 ((units n).length:Int) (F122_2_B 0 (units n)) (F122_2_D 0 (units n)) []=some (units n):=h2;unfold F122;rw[e0,ob];have hz:(if n=0 then(0:Int)else((0:Nat):Int))=0:=by split <;> rfl
 simp only;rw[hz,hlong,e1,ob,h2',ob]
theorem F76_0{x:GComplex}(hs:x.Dims.length≤1048576)(hl:0 < x.Dims.length){n:Nat}(hn:x.Dims.getD 0 0=n)(hn8:n≤1000):F76 x 0=some (List.replicate n []):=by
 unfold F76;rw[chk_ok (by omega) (by omega),ob,F54_eq,ob,if_neg (by simp)];have h99:F99 x 0=some (n:Int):=by have:=F99_at hs hl; rw[hn]at this; exact this
 obtain⟨t,g1,g2⟩:=loopW_inv (S:=F76_1_S x 0) (fun s=>(n - s.2).toNat) (fun s=> 0≤s.2∧s.2≤n∧s.1=List.replicate s.2.toNat []) (fun t=> t=List.replicate n []) (s:=([],0)) ⟨Int.le_refl _,by omega,rfl⟩ (by
  rintro⟨l,j⟩ ⟨p1,p2,p3⟩;simp only at p1 p2 p3;subst p3;unfold F76_1_S;simp only;rw[h99,ob];by_cases hj:j < (n:Int)
  ·left
   rw[if_pos hj,app_ok (by simp; omega) (by simp; omega),ob,chk_ok (by omega) (by omega),ob];refine⟨_,rfl,⟨by simp only; omega,by simp only; omega,?_⟩,by simp only; omega⟩;simp only;rw[show(j+1).toNat=j.toNat+1 from by omega,List.replicate_succ']
  ·right
   rw[if_neg hj];have:j.toNat=n:=by omega
   rw[this];exact⟨_,rfl,rfl⟩)
 rw[g1,ob,g2]
theorem F115_ld{r:List Int}(hl:r.length≤1048576)(h:ld r < r.length):F115 r (fun x=> F123 x)=some (ld r:Int):=by
 unfold F115;obtain⟨t,g1,g2⟩:=forR_inv (B:=F115_1_B r (fun x=> F123 x)) (D:=F115_1_D r (fun x=> F123 x)) r.length rfl (by omega) (fun i _=> i≤ld r) (fun t=> t= .inr (ld r:Int)) (s:=()) (Nat.zero_le _) (by
  rintro i _ hi hI;unfold F115_1_B F123;rw[nth_get hi,ob,ob];by_cases q:nth r i=0
  ·left
   rw[if_neg (by simp[q])];refine⟨(),rfl,?_⟩;rcases Nat.lt_or_ge i (ld r)with q2|q2
   ·exact q2
   ·have:i=ld r:=by omega
    subst this;exact absurd q (ld_ne hi)
  ·right
   rw[if_pos (by simp[q])];have:ld r=i:=by
    rcases Nat.lt_or_ge i (ld r)with q2|q2
    ·exact absurd (ld_zero q2) q
    ·omega
   exact⟨_,rfl,by rw[this]⟩) (by
  rintro _ hI;omega)
 rw[g1,ob,g2]
theorem F101_eq{p:Int}{w:Nat}{K:List (List Int)}(h:Red p w K)(hw:w≤1000):F101 K=some (K.map fun r=>(ld r:Int)):=by
 unfold F101;have hk:=red_len h;obtain⟨t,g1,g2⟩:=forR_inv (B:=F101_1_B K) (D:=F101_1_D K) K.length rfl (by omega) (fun i s=> s=(K.map fun r=>(ld r:Int)).take i) (fun t=> t=K.map fun r=>(ld r:Int)) (s:=[]) (by simp) (by
  rintro i s hi rfl;left;have hok:=h.ok _ (List.getElem_mem hi);have hone:=h.one _ (List.getElem_mem hi);refine⟨(K.map fun r=>(ld r:Int)).take (i+1),?_,rfl⟩;unfold F101_1_B;rw[getI_nat hi,ob,F115_ld (by rw[hok.len]; omega) (by rw[hok.len]; exact hone.1),ob,app_ok (by simp; omega) (by simp; omega),ob]
  congr 2
  rw[←List.take_append_getElem (show i < (K.map fun r=>(ld r:Int)).length by simpa using hi)];simp) (by
  rintro s rfl;exact⟨_,rfl,by rw[List.take_of_length_le (by simp)]⟩)
 rw[g1,ob,g2]
theorem forR_map{α β:Type}{l:List α}(g:α→β){B:Int→List β→Option (List β⊕List β)}{D:Int→List β→Option (List β)}{s0:List β}(hl:l.length≤1000000)
  (hB:∀ (k:Nat) (hk:k < l.length) (s:List β),s.length=s0.length+k→B k s=some (.inl (s++[g l[k]]))) (hD:∀i s,D i s=some s):forR 0 (l.length:Int) B D s0=some (s0++l.map g):=by
 have hlen:l.length < 4611686018427387904:=by omega
 obtain⟨t,g1,g2⟩:=forR_inv (B:=B) (D:=D) l.length rfl hlen (fun i s=> s=s0++(l.map g).take i) (fun t=> t=s0++l.map g) (s:=s0) (by simp) (by
  rintro i s hi rfl;left;refine⟨_,hB i hi _ (by simp; omega),?_⟩;have:i < (l.map g).length:=by simpa using hi
  rw[←List.take_append_getElem this];simp) (by
  rintro s rfl;exact⟨_,hD _ _,by rw[List.take_of_length_le (by simp)]⟩)
 rw[g1,g2]
def coll{β:Type}(n:Nat)(f:Nat→List β):List β:=(List.range n).flatMap f
theorem coll_succ{β:Type}(n:Nat)(f:Nat→List β):coll (n+1) f=coll n f++f n:=by
 unfold coll; rw[List.range_succ,List.flatMap_append]; simp
theorem coll_len{β:Type}{f:Nat→List β}(h:∀i,(f i).length≤1):∀n,(coll n f).length≤n
 |0=> by simp[coll]
 |n+1=> by rw[coll_succ,List.length_append]; have:=coll_len h n; have:=h n; omega
theorem mem_coll{β:Type}{n:Nat}{f:Nat→List β}{b:β}:b∈coll n f↔∃i,i < n∧b∈f i:=by simp[coll]
theorem forR_coll{β:Type}{n:Nat}(f:Nat→List β){B:Int→List β→Option (List β⊕List β)}{D:Int→List β→Option (List β)}(hn:n≤1000000)(h1:∀i,(f i).length≤1)
  (hB:∀ (i:Nat) (s:List β),i < n→s.length≤i→B i s=some (.inl (s++f i))) (hD:∀i s,D i s=some s):forR 0 (n:Int) B D []=some (coll n f):=by
 have hlen:n < 4611686018427387904:=by omega
 obtain⟨t,g1,g2⟩:=forR_inv (B:=B) (D:=D) n rfl hlen (fun i s=> s=coll i f) (fun t=> t=coll n f) (s:=[]) (by simp[coll]) (by
  rintro i s hi rfl;left;exact⟨_,hB i _ hi (coll_len h1 i),(coll_succ i f).symm⟩) (by
  rintro s rfl;exact⟨_,hD _ _,rfl⟩)
 rw[g1,g2]
theorem loopW_coll{β:Type}{n:Nat}(f:Nat→List β){S:List β×Int→Option ((List β×Int)⊕List β)}(h1:∀i,(f i).length≤1)
  (hB:∀ (i:Nat) (s:List β),i < n→s.length≤i→S (s,(i:Int))=some (.inl (s++f i,(i:Int)+1))) (hD:∀s:List β,S (s,(n:Int))=some (.inr s)):loopW S ([],0)=some (coll n f):=by
 obtain⟨t,g1,g2⟩:=loopW_inv (S:=S) (fun s=>(n - s.2).toNat) (fun s=>∃i:Nat,s.2=i∧i≤n∧s.1=coll i f) (fun t=> t=coll n f) (s:=([],0)) ⟨0,rfl,Nat.zero_le _,by simp[coll]⟩ (by
  rintro⟨s,j⟩ ⟨i,p1,p2,p3⟩;simp only at p1 p3;subst p1; subst p3;by_cases hi:i < n
  ·left
   refine⟨_,hB i _ hi (coll_len h1 i),⟨i+1,by simp,hi,(coll_succ i f).symm⟩,by simp only; omega⟩
  ·right
   have:i=n:=by omega
   subst this;exact⟨_,hD _,rfl⟩)
 rw[g1,g2]
def lv(x:GFiltered)(n j:Nat):Int:=(x.Levels.getD n []).getD j 0
theorem IsP.inv{p:Int}(hp:IsP p):HasInv p:=by
 intro a h0 h1;have key:∀k m:Int,a*k=1+p*m→∃k,Cg p (a*k) 1:=fun k m e=>⟨k,m,by omega⟩;unfold IsP at hp;rcases hp with rfl|rfl|rfl|rfl
 ·have:a=1:=by omega
  subst this; exact key 1 0 (by decide)
 ·have:a=1∨a=2:=by omega
  rcases this with rfl|rfl
  ·exact key 1 0 (by decide)
  ·exact key 2 1 (by decide)
 ·have:a=1∨a=2∨a=3∨a=4:=by omega
  rcases this with rfl|rfl|rfl|rfl
  ·exact key 1 0 (by decide)
  ·exact key 3 1 (by decide)
  ·exact key 2 1 (by decide)
  ·exact key 4 3 (by decide)
 ·have:a=1∨a=2∨a=3∨a=4∨a=5∨a=6:=by omega
  rcases this with rfl|rfl|rfl|rfl|rfl|rfl
  ·exact key 1 0 (by decide)
  ·exact key 4 1 (by decide)
  ·exact key 5 2 (by decide)
  ·exact key 2 1 (by decide)
  ·exact key 3 2 (by decide)
  ·exact key 6 5 (by decide)
theorem rest_take{p:Int}{R:List (List Int)}{v:List Int}{i:Nat}(hi:i < R.length):rest p (R.take (i+1)) v=subv p (rest p (R.take i) v) R[i] (nth (rest p (R.take i) v) (ld R[i])):=by
 rw[←List.take_append_getElem hi];unfold rest;rw[List.foldl_append];rfl
theorem F205_eq{p:Int}{w:Nat}(hp:IsP p){R:List (List Int)}(hR:Red p w R){v:List Int}(hv:VecOK p w v)(hw:w≤1000):F205 p v R=some (rest p R v):=by
 have hp0:0 < p:=by have:=hp.range; omega
 have hRl:=red_len hR;unfold F205;rw[F96_eq (by rw[hv.len]; omega),ob,F101_eq hR hw,ob];obtain⟨t,g1,g2⟩:=forR_inv (B:=F205_1_B p R (R.map fun r=>(ld r:Int))) (D:=F205_1_D) (hi:=((R.map fun r=>(ld r:Int)).length:Int)) R.length (by simp) (by omega) (fun i s=> s=rest p (R.take i) v) (fun t=> t=rest p R v) (s:=v) rfl (by
  rintro i s hi rfl;left;have hri:=hR.ok _ (List.getElem_mem hi);have hro:=hR.one _ (List.getElem_mem hi);have hok:=rest_ok hp0 (R:=R.take i) (fun r hr=> hR.ok r (List.mem_of_mem_take hr)) hv;have hrng:=hok.rng _ hro.1;refine⟨_,?_,(rest_take hi).symm⟩;unfold F205_1_B;rw[getI_nat (by simpa using hi),ob,List.getElem_map,getI_nat hi,ob,nth_get (by rw[hok.len]; exact hro.1),ob,F139_eq hp.range hrng hok hri (by omega),ob]) (by
  rintro s rfl;exact⟨_,rfl,by rw[List.take_length]⟩)
 rw[g1,g2]
theorem rest_rows{p:Int}{w:Nat}(hp0:0 < p){R N:List (List Int)}(hR:Rows p w R)(hN:Rows p w N):Rows p w (N.map (rest p R)):=fun r hr=> by
 obtain⟨v,hv,rfl⟩:=List.mem_map.1 hr;exact rest_ok hp0 hR (hN v hv)
theorem F204_eq{p:Int}{w:Nat}(hp:IsP p){R N:List (List Int)}(hR:Red p w R)(hN:Rows p w N)(hl:N.length≤1000)(hw:w≤1000):∃E,F204 p N R=some E∧F131 p (N.map (rest p R))=some E∧EchOf p w (N.map (rest p R)) E:=by
 have hp0:0 < p:=by have:=hp.range; omega
 obtain⟨E,e1,e2,e3⟩:=reduce_same hp (rest_rows hp0 hR.ok hN) (by omega) (by rw[List.length_map]; omega);refine⟨E,?_,e1,e3⟩;unfold F204;rw[forR_map (rest p R) (by omega) (fun k hk s hsl=> by
  have hv:=hN _ (List.getElem_mem hk);unfold F204_1_B;rw[getI_nat hk,ob,F205_eq hp hR hv hw,ob,app_ok (by simp; simp at hsl; omega) (by simp; simp at hsl; omega),ob]) (by intro i s; rfl),ob,List.nil_append,e2,ob]
theorem kernel_full{p:Int}{w:Nat}(hp:IsP p){rows:List (List Int)}(hr:Rows p w rows)(hw:w≤1000)(hn:rows.length≤1000):∃K,F122 p rows.length rows=some K∧F125 p rows=some K∧Red p rows.length K∧∀c,Sp p rows.length K c↔VecOK p rows.length c∧∀j,j < w→Cg p (dot (nth c) rows rows.length j) 0:=by
 have hp1:1 < p:=by have:=hp.range; omega
 unfold F122 F125;rw[F122_1_eq hr hw hn,ob];simp only;by_cases h0:rows.length=0
 ·have:rows=[]:=List.eq_nil_of_length_eq_zero h0
  subst this;have e:(longs ([]:List (List Int)).length [])=[]:=by simp[longs]
  obtain⟨E,e1, -,e3⟩:=reduce_same hp (rows:=[]) (w:=0+0) (fun r h=>(nomatch h)) (by omega) (by simp);have hE:E=[]:=List.eq_nil_of_length_eq_zero (by have:=red_len e3.red; omega);subst hE;rw[e,e1,ob,if_pos (by simp),if_pos (by simp)];have:=F122_2_eq (w:=0) (n:=0) e3.red (by omega);have h2:forR 0 ((([]:List (List Int)).length:Nat):Int) (F122_2_B 0 []) (F122_2_D 0 []) []=some []:=this;rw[h2];refine⟨[],rfl,rfl,⟨fun r h=>(nomatch h),fun r h=>(nomatch h),.nil⟩,fun c=>⟨fun hc=>⟨hc.ok (by omega) (fun r h=> absurd h List.not_mem_nil),fun j _=> .refl _ _⟩,fun hc=>?_⟩⟩;have:c=zv 0:=List.eq_nil_of_length_eq_zero hc.1.len;rw[this];exact .zero
 ·rw[if_neg h0,if_neg (by omega)]
  obtain⟨E,e1,e2,e3⟩:=reduce_same hp (longs_ok hp1 hr) (by omega) (by rw[longs_len]; omega);have hpos:0 < rows.length:=by omega
  have hx0:=(hr _ (List.getElem_mem hpos)).len;have ht:=tails_red e3.red;rw[show(0:Int)=((0:Nat):Int) from rfl,getI_nat hpos,ob,show((0:Nat):Int)=(0:Int) from rfl,e1,ob,F122_2_eq e3.red (by omega),ob,F125_1_eq hr hx0 hw hn,ob,e2,ob,F125_2_eq e3.red (by omega) hx0,ob,F133_self hp ht (by omega) (by have:=red_len ht; omega),ob];exact⟨_,rfl,rfl,ht,fun c=> kernel_sp hp1 hr e3⟩
theorem lin_at{p:Int}{n:Nat}{v:List Int}{m:List (List Int)}(H:LinOK p n v m){j:Nat}(hj:j < n):Cg p (nth (lin p n v m) j) (dot (nth v) m v.length j):=by
 have key:∀i,i≤v.length→Cg p (nth (linN p n v m i) j) (dot (nth v) m i j):=by
  intro i;induction i with
  |zero=> intro _; simp only[linN]; rw[show nth (List.replicate n (0:Int)) j=0 from nth_zv n j]; exact .refl _ _
  |succ i ih=>
   intro hi;obtain⟨h1,h2⟩:=linN_ok H i (by omega);have hm:i < m.length:=by have:=H.hl; omega
   have hr:=H.hr _ (List.getElem_mem hm);have e1:v.getD i 0=v[i]:=by simp[show i < v.length by omega]
   have e2:m.getD i []=m[i]:=by simp[hm]
   have hx:=H.hv _ (List.getElem_mem (show i < v.length by omega));have ho:=h2 _ (List.getElem_mem (show j < (linN p n v m i).length by omega));have hy:=hr.2 _ (List.getElem_mem (show j < m[i].length by omega));obtain⟨-, -,t1, -⟩:=small_mul H.hp hx hy ho;have e3:nth (linN p n v m (i+1)) j=((linN p n v m i)[j]+v[i]*(m[i])[j]).tmod p:=by
    simp only[linN,e1,e2];rw[nth_lt (by unfold addRow; rw[List.length_zipWith,h1,hr.1]; omega)];simp[addRow]
   have h0:0≤(linN p n v m i)[j]+v[i]*(m[i])[j]:=by have:=Int.mul_nonneg hx.1 hy.1; omega
   rw[e3,Int.tmod_eq_emod_of_nonneg h0];refine(Cg.mod _ _).trans ?_;show Cg p _ (sumI _ (i+1));unfold sumI;refine .add ?_ ?_
   ·have:=ih (by omega)
    rwa[nth_lt (by omega)]at this
   ·rw[nth_lt (show i < v.length by omega),rowAt_lt hm,nth_lt (show j < m[i].length by omega)]; exact .refl _ _
 exact key v.length (Nat.le_refl _)
theorem units_sp{p:Int}(hp:1 < p){n:Nat}{v:List Int}(hv:VecOK p n v):Sp p n (units n) v:=by
 have hp0:0 < p:=by omega
 have hu:=units_red hp n;refine(rest_zero hp0 hu hv).1 ((rest_ok hp0 hu.ok hv).ext (zv_ok hp0 n) fun j hj=>?_);have hm:unitv n j∈units n:=List.mem_map.2 ⟨j,List.mem_range.2 hj,rfl⟩;have:=rest_lead hp0 hu hv _ hm;rw[ld_unit hj]at this;rw[this,nth_zv]; exact .refl _ _
theorem F188_eq{p:Int}{w:Nat}(hp:IsP p){T B:List (List Int)}(hT:Red p w T)(hB:Red p w B){v:List Int}(hv:VecOK p w v)(hw:w≤1000):F188 p v T B=some (leadsOf T (rest p B v)):=by
 have hp0:0 < p:=by have:=hp.range; omega
 have hTl:=red_len hT;have hok:=rest_ok hp0 hB.ok hv;unfold F188;rw[F205_eq hp hB hv hw,ob,F101_eq hT hw,ob,forR_map (l:=T.map fun r=>(ld r:Int)) (fun i=> nth (rest p B v) i.toNat) (by simp; omega) (fun k hk s hsl=> by
  have hk':k < T.length:=by simpa using hk
  have hone:=hT.one _ (List.getElem_mem hk');unfold F188_1_B;rw[getI_nat hk,ob,List.getElem_map,nth_get (by rw[hok.len]; exact hone.1),ob,app_ok (by simp; simp at hsl; omega) (by simp; simp at hsl; omega),ob,Int.toNat_natCast]) (by intro i s; rfl),ob,List.nil_append]
 unfold leadsOf;rw[List.map_map];rfl
theorem idx_loopW{α:Type}{l:List α}(g:Nat→α→α){S:List α×Int→Option ((List α×Int)⊕List α)}
  (hS:∀ (i:Nat) (hi:i < l.length) (s:List α),s.length=l.length→(∀k,s[k]? =if k < i then(l[k]?).map (g k)else l[k]?)→S (s,(i:Int))=some (.inl (s.set i (g i l[i]),(i:Int)+1))) (hE:∀s:List α,s.length=l.length→S (s,(l.length:Int))=some (.inr s)):loopW S (l,0)=some (l.mapIdx g):=by
 obtain⟨t,h1,h2⟩:=loopW_inv (S:=S) (fun s=>(l.length - s.2).toNat) (fun s=>∃i:Nat,s.2=i∧i≤l.length∧s.1.length=l.length∧∀k,s.1[k]? =if k < i then(l[k]?).map (g k)else l[k]?) (fun t=> t=l.mapIdx g) (s:=(l,0)) ⟨0,rfl,Nat.zero_le _,rfl,fun k=> by simp⟩ (by
  rintro⟨s,j⟩ ⟨i,p0,p00,p1,p2⟩;simp only at p0 p1 p2;subst p0;by_cases hi:i < l.length
  ·left
   refine⟨_,hS i hi s p1 p2,⟨i+1,by simp,hi,by simp only[List.length_set]; exact p1,fun k=>?_⟩,by simp only; omega⟩;simp only;rw[List.getElem?_set];by_cases e:i=k
   ·subst e; rw[if_pos rfl,if_pos (by omega),if_pos (by omega)]; simp[hi]
   ·rw[if_neg e,p2 k]
    by_cases q:k < i
    ·rw[if_pos q,if_pos (by omega)]
    ·rw[if_neg q,if_neg (by omega)]
  ·right
   have:i=l.length:=by omega
   subst this;refine⟨s,hE s p1,?_⟩;apply List.ext_getElem?;intro k;rw[p2 k,List.getElem?_mapIdx];by_cases q:k < l.length
   ·rw[if_pos q]
   ·rw[if_neg q,List.getElem?_eq_none (by omega)]; rfl)
 rw[h1,h2]
def LTells(o:Option (Unit⊕(Unit⊕Bool)))(P:Prop):Prop:=∃b:Bool,o=some (if b=true then .inl ()else .inr (.inr false))∧(b=true↔P)
theorem LTells.iff{o:Option (Unit⊕(Unit⊕Bool))}{P Q:Prop}(h:LTells o P)(e:P↔Q):LTells o Q:=by
 obtain⟨b,h1,h2⟩:=h; exact⟨b,h1,h2.trans e⟩
theorem LTells.yes:LTells (some (.inl ())) True:=⟨true,rfl,by simp⟩
theorem Tells.then_L{o:Option Bool}{k:Option (Unit⊕(Unit⊕Bool))}{P Q:Prop}(T:Tells o P)(hk:P→LTells k Q):LTells (o.bind fun b=> if b=true then k else some (.inr (.inr false))) (P∧Q):=by
 rcases T.case with⟨e,q⟩|⟨e,q⟩
 ·rw[e,ob,if_pos rfl]
  exact(hk q).iff ⟨fun h=>⟨q,h⟩,fun h=> h.2⟩
 ·rw[e,ob,if_neg Bool.false_ne_true]
  exact⟨false,rfl,by simp only[Bool.false_eq_true,false_iff]; exact fun h=> q h.1⟩
theorem LTells.ite{a b:Int}{k:Option (Unit⊕(Unit⊕Bool))}{Q:Prop}(hk:a=b→LTells k Q):LTells (if a=b then k else some (.inr (.inr false))) (a=b∧Q):=by
 by_cases c:a=b
 ·rw[if_pos c]; exact(hk c).iff ⟨fun h=>⟨c,h⟩,fun h=> h.2⟩
 ·rw[if_neg c]; exact⟨false,rfl,by simp[c]⟩
def WTells(o:Option (Int⊕(Unit⊕Bool)))(i:Int)(P:Prop):Prop:=∃b:Bool,o=some (if b=true then .inl (i+1)else .inr (.inr false))∧(b=true↔P)
theorem WTells.iff{o:Option (Int⊕(Unit⊕Bool))}{i:Int}{P Q:Prop}(h:WTells o i P)(e:P↔Q):WTells o i Q:=by
 obtain⟨b,h1,h2⟩:=h; exact⟨b,h1,h2.trans e⟩
theorem WTells.yes{i:Int}:WTells (some (.inl (i+1))) i True:=⟨true,rfl,by simp⟩
theorem Tells.then_W{o:Option Bool}{k:Option (Int⊕(Unit⊕Bool))}{i:Int}{P Q:Prop}(T:Tells o P)(hk:P→WTells k i Q):WTells (o.bind fun b=> if b=true then k else some (.inr (.inr false))) i (P∧Q):=by
 rcases T.case with⟨e,q⟩|⟨e,q⟩
 ·rw[e,ob,if_pos rfl]
  exact(hk q).iff ⟨fun h=>⟨q,h⟩,fun h=> h.2⟩
 ·rw[e,ob,if_neg Bool.false_ne_true]
  exact⟨false,rfl,by simp only[Bool.false_eq_true,false_iff]; exact fun h=> q h.1⟩
theorem all_for{n:Nat}{B:Int→Unit→Option (Unit⊕(Unit⊕Bool))}{D:Int→Unit→Option (Unit⊕Bool)}(P:Nat→Prop)(hn:n≤1000000)(hB:∀i:Nat,i < n→LTells (B i ()) (P i))(hD:∀i,D i ()=some (.inl ())):
  ∃b:Bool,forR 0 (n:Int) B D ()=some (if b=true then .inl ()else .inr false)∧(b=true↔∀i,i < n→P i):=by
 obtain⟨t,h1,b,h2,h3⟩:=forR_inv (B:=B) (D:=D) n rfl (by omega) (fun i _=>∀k,k < i→P k) (fun t=>∃b:Bool,t=(if b=true then .inl ()else .inr false)∧(b=true↔∀i,i < n→P i)) (s:=()) (fun k hk=> by omega) (by
  rintro i _ hi hI;obtain⟨b,e,q⟩:=hB i hi;cases b with
  |true=>
   left;refine⟨(),e,fun k hk=>?_⟩;by_cases c:k=i
   ·subst c; exact q.1 rfl
   ·exact hI k (by omega)
  |false=>
   right;refine⟨.inr false,e,false,rfl,?_⟩;simp only[Bool.false_eq_true,false_iff];intro h;have:=q.2 (h i hi);cases this) (by
  rintro _ hI;exact⟨.inl (),hD _,true,rfl,by simp only[true_iff]; exact hI⟩)
 subst h2;exact⟨b,h1,h3⟩
theorem all_W{n:Nat}{S:Int→Option (Int⊕(Unit⊕Bool))}(P:Nat→Prop)(hS:∀i:Nat,i < n→WTells (S i) i (P i))(hE:S n=some (.inr (.inl ()))):
  ∃b:Bool,loopW S 0=some (if b=true then .inl ()else .inr false)∧(b=true↔∀i,i < n→P i):=by
 obtain⟨t,h1,b,h2,h3⟩:=loopW_inv (S:=S) (fun j=>(n - j).toNat) (fun j=>∃i:Nat,j=i∧i≤n∧∀k,k < i→P k) (fun t=>∃b:Bool,t=(if b=true then .inl ()else .inr false)∧(b=true↔∀i,i < n→P i)) (s:=0) ⟨0,rfl,Nat.zero_le _,fun k hk=> by omega⟩ (by
  rintro _ ⟨i,rfl,hi,hI⟩;by_cases hlt:i < n
  ·obtain⟨b,e,q⟩:=hS i hlt
   cases b with
   |true=>
    left;refine⟨(i:Int)+1,e,⟨i+1,by simp,hlt,fun k hk=>?_⟩,by omega⟩;by_cases c:k=i
    ·subst c; exact q.1 rfl
    ·exact hI k (by omega)
   |false=>
    right;refine⟨.inr false,e,false,rfl,?_⟩;simp only[Bool.false_eq_true,false_iff];intro h;have:=q.2 (h i hlt);cases this
  ·right
   have:i=n:=by omega
   subst this;exact⟨.inl (),hE,true,rfl,by simp only[true_iff]; exact hI⟩)
 subst h2;exact⟨b,h1,h3⟩
theorem same_iff{a b:List Int}(h:a.length=b.length):(∀i,i < a.length→nth a i=nth b i)↔a=b:=⟨fun q=> nth_ext h q,fun q i _=> by rw[q]⟩
theorem F287_tells{a b:List Int}(ha:a.length≤1000):Tells (F287 a b) (a=b):=by
 unfold F287;by_cases c:(a.length:Int)=b.length
 case neg=> rw[if_neg c]; exact .of_false rfl fun h=> c (by rw[h])
 rw[if_pos c];obtain⟨b',h1,h2⟩:=all_for (B:=F287_1_B a b) (D:=F287_1_D a b) (fun i=> nth a i=nth b i) (show a.length≤1000000 by omega) (fun i hi=> by
  unfold F287_1_B;rw[nth_get hi,ob,nth_get (show i < b.length by omega),ob];exact(LTells.ite fun _=> .yes).iff (by simp)) fun i=> rfl
 rw[h1,ob];have e:=same_iff (a:=a) (b:=b) (by omega);cases b' with
 |true=> exact .of_true rfl (e.1 (h2.1 rfl))
 |false=> exact .of_false rfl fun h=> by have:=h2.2 (e.2 h); cases this
theorem F165_tells{a b:List Int}(ha:a.length≤1000):Tells (F165 a b) (a=b):=F287_tells ha
theorem F272_eq{n i:Nat}(hi:i < n)(hn:n≤1000):F272 (n:Int) (i:Int)=some (unitv n i):=by
 unfold F272;rw[mkL_ok n rfl (by omega) (by omega),ob]
 change ((getI (zv n) (i:Int)).bind _)=_
 rw[getI_nat (by simpa[zv]using hi),ob]
 change ((setI (zv n) (i:Int) 1).bind _)=_
 rw[setI_nat (by simpa[zv]using hi),ob];rfl
def dc(x:GComplex)(n:Nat):Nat:=(x.Dims.getD n 0).toNat
theorem dc_le{x:GComplex}(h:ValidC x)(n:Nat):dc x n≤8:=by
 unfold dc;by_cases hn:n < x.Dims.length
 ·have:=h.dim hn; omega
 ·rw[List.getD_eq_getElem?_getD,List.getElem?_eq_none (by omega)]; simp
theorem dc_at{x:GComplex}(h:ValidC x){n:Nat}(hn:n < x.Dims.length):x.Dims.getD n 0=(dc x n:Int):=by
 have:=h.dim hn;unfold dc; omega
theorem F99_dc{x:GComplex}(hx:SmallC x)(h:ValidC x){n:Nat}(hn:n≤x.Dims.length):F99 x (n:Int)=some (dc x n:Int):=by
 have hd:=hx.d;by_cases c:n < x.Dims.length
 ·rw[F99_at hx.d c,dc_at h c]
 ·have e:n=x.Dims.length:=by omega
  subst e;have:dc x x.Dims.length=0:=by unfold dc; rw[List.getD_eq_getElem?_getD,List.getElem?_eq_none (by omega)]; rfl
  unfold F99;rw[chk_ok (by omega) (by omega),ob,F54_eq,ob,if_neg (by simp; omega),this];rfl
theorem F102_dc{x:GComplex}(hx:SmallC x)(h:ValidC x){n:Nat}(hn:n≤x.Dims.length):F102 x (n:Int)=some (dc x n:Int):=by
 have hd:=hx.d;by_cases c:n < x.Dims.length
 ·rw[F102_at hx.d c,dc_at h c]
 ·have e:n=x.Dims.length:=by omega
  subst e;have:dc x x.Dims.length=0:=by unfold dc; rw[List.getD_eq_getElem?_getD,List.getElem?_eq_none (by omega)]; rfl
  unfold F102;rw[F86_eq hx.d,ob,F56_eq,ob,if_neg (by simp; omega),this];rfl
noncomputable def hm(x:GComplex)(n:Nat):Int:=(F283 x (n:Int)).getD 0
structure TabN (p:Int) (c w:Nat) (m:List (List Int)):Prop where
 len:m.length=c
 rows:Rows p w m
theorem TabN.of{p:Int}{c w:Nat}{m:List (List Int)}(T:TableOK p (c:Int) (w:Int) m):TabN p c w m:=⟨by have:=T.1; omega,fun r hr=>(T.2 r hr).vec⟩
theorem linT{p:Int}(hp:IsP p){c w:Nat}{m:List (List Int)}(T:TabN p c w m)(hc:c≤1000)(hw:w≤1000){v:List Int}(hv:VecOK p c v):F80 p m v (w:Int)=some (lin p w v m)∧F119 p (w:Int) v m=some (lin p w v m)∧VecOK p w (lin p w v m):=by
 have hvl:=hv.len;have hml:=T.len;have H:LinOK p w v m:=⟨hp.range,fun y hy=> by
  obtain⟨k,hk,rfl⟩:=List.getElem_of_mem hy;have:=hv.rng k (by omega)
  rwa[nth_lt hk]at this,by omega,fun l hl=>⟨(T.rows l hl).len,fun y hy=> by
  have hl':=T.rows l hl;have hll:=hl'.len;obtain⟨k,hk,rfl⟩:=List.getElem_of_mem hy;have:=hl'.rng k (by omega)
  rwa[nth_lt hk]at this⟩,by omega,by omega⟩
 refine⟨F80_eq H rfl,F119_eq H rfl,?_⟩;have hok:=linN_ok H v.length (Nat.le_refl _);refine⟨hok.1,fun j hj=>?_⟩;have hj':j < (lin p w v m).length:=by rw[lin_len H]; exact hj
 rw[nth_lt hj'];exact hok.2 _ (List.getElem_mem hj')
def TabsAt(x:GComplex)(c:GContraction)(n:Nat):Prop:=TableOK x.Prime (dc x n) (hm x n) (c.Down.getD n [])∧TableOK x.Prime (hm x n) (dc x n) (c.Up.getD n [])∧TableOK x.Prime (dc x n) (dc x (n+1)) (c.Back.getD n [])
structure ShapeK (x:GComplex) (c:GContraction):Prop where
 d:c.Down.length=x.Dims.length
 u:c.Up.length=x.Dims.length
 b:c.Back.length=x.Dims.length
 t:∀n,n < x.Dims.length→TabsAt x c n
def hN(c:GContraction)(n:Nat):Nat:=(c.Up.getD n []).length
def bkF(x:GComplex)(c:GContraction)(n:Nat)(v:List Int):List Int:=lin x.Prime (dc x (n+1)) v (c.Back.getD n [])
def dfF(x:GComplex)(n:Nat)(v:List Int):List Int:=if n=0 then []else lin x.Prime (dc x (n - 1)) v (x.Maps.getD (n - 1) [])
structure KOK (x:GComplex) (c:GContraction):Prop where
 sx:SmallC x
 vx:ValidC x
 sk:ShapeK x c
theorem df_eq{x:GComplex}(hx:SmallC x)(h:ValidC x){n:Nat}(hn:n < x.Dims.length){v:List Int}(hv:VecOK x.Prime (dc x n) v):F273 x (n:Int) v=some (dfF x n v)∧F91 x (n:Int) v=some (dfF x n v)∧(n≠0→VecOK x.Prime (dc x (n - 1)) (dfF x n v))∧(dfF x n v).length≤8:=by
 have hxd:=hx.d;unfold F273 F91 dfF;by_cases c:n=0
 ·subst c
  rw[if_pos (by simp),if_pos (by simp),if_pos (by simp)];exact⟨rfl,rfl,fun q=> absurd rfl q,by simp⟩
 ·obtain⟨m,rfl⟩:∃m,n=m+1:=⟨n - 1,by omega⟩
  have hm:m < x.Maps.length:=by have:=h.ml; omega
  have T:TabN x.Prime (dc x (m+1)) (dc x m) (x.Maps.getD m []):= .of (by have:=h.tab m hm; unfold TabAt at this; rwa[dc_at h hn,dc_at h (show m < x.Dims.length by omega)]at this);have hd:=dc_le h m;have hd1:=dc_le h (m+1);obtain⟨a1,a2,a3⟩:=linT h.p T (by omega) (by omega) hv;have e:((m+1:Nat):Int) - 1=(m:Int):=by omega
  rw[if_neg (by omega),if_neg (by omega),if_neg (by omega),F76_eq hx.d (by omega) hm,ob,chk_ok (by omega) (by omega),ob,e,F99_dc hx h (by omega),ob,a1,ob,F86_eq hx.d,ob,if_neg (by omega),ob,getI_getD (show m < x.Dims.length by omega) 0,ob,getI_getD hm [],ob,dc_at h (show m < x.Dims.length by omega),a2,ob,Nat.add_sub_cancel];exact⟨rfl,rfl,fun _=> a3,by rw[a3.len]; omega⟩
def Zr(l:List Int):Prop:=∀y∈l,y=0
def first(x:GComplex)(c:GContraction)(n:Nat)(v:List Int):List Int:=if n+1 < x.Dims.length then dfF x (n+1) (bkF x c n v)else zv (dc x n)
structure PT (s0 ms:T3s) (φ:Nat→Nat→Nat→Nat×Nat×Nat) (val:Nat→Nat→Nat→Int) (D:Nat→Nat→Nat→Prop) (s:T3s):Prop where
 shp:Shp s s0
 at':∀k i j,InT ms k i j→(D k i j→numAt s (φ k i j).1 (φ k i j).2.1 (φ k i j).2.2=val k i j)∧(¬D k i j→numAt s (φ k i j).1 (φ k i j).2.1 (φ k i j).2.2=numAt s0 (φ k i j).1 (φ k i j).2.1 (φ k i j).2.2)
 out:∀a b c,InT s0 a b c→(∀k i j,InT ms k i j→φ k i j≠(a,b,c))→numAt s a b c=numAt s0 a b c
theorem PT.imp{s0 ms:T3s}{φ:Nat→Nat→Nat→Nat×Nat×Nat}{val:Nat→Nat→Nat→Int}{D D':Nat→Nat→Nat→Prop}{s:T3s}(h:PT s0 ms φ val D s)(hd:∀k i j,InT ms k i j→(D k i j↔D' k i j)):PT s0 ms φ val D' s:=
 ⟨h.shp,fun k i j hin=>⟨fun d=>(h.at' k i j hin).1 ((hd k i j hin).2 d),fun d=>(h.at' k i j hin).2 fun x=> d ((hd k i j hin).1 x)⟩,h.out⟩
theorem PT.zero{s0 ms:T3s}{φ:Nat→Nat→Nat→Nat×Nat×Nat}{val:Nat→Nat→Nat→Int}:PT s0 ms φ val (fun _ _ _=> False) s0:=⟨.refl _,fun k i j _=>⟨fun x=> x.elim,fun _=> rfl⟩,fun _ _ _ _ _=> rfl⟩
theorem PT.step{s0 ms:T3s}{φ:Nat→Nat→Nat→Nat×Nat×Nat}{val:Nat→Nat→Nat→Int}(hi:∀k i j,InT ms k i j→InT s0 (φ k i j).1 (φ k i j).2.1 (φ k i j).2.2)(hinj:∀k i j k' i' j',InT ms k i j→InT ms k' i' j'→φ k i j=φ k' i' j'→k=k'∧i=i'∧j=j')
  {D D':Nat→Nat→Nat→Prop} {s:T3s} (h:PT s0 ms φ val D s) {k i j:Nat} (hin:InT ms k i j) (hd:∀k' i' j',D' k' i' j'↔D k' i' j'∨(k'=k∧i'=i∧j'=j)):PT s0 ms φ val D' (put3 s (φ k i j).1 (φ k i j).2.1 (φ k i j).2.2 (val k i j)):=by
 have hs:=h.shp.inT (hi k i j hin);refine⟨(put3_shp hs _).trans h.shp,fun k' i' j' hin'=>?_,fun a b c habc hne=>?_⟩
 ·rw[put3_at hs]
  by_cases e:k'=k∧i'=i∧j'=j
  ·obtain⟨rfl,rfl,rfl⟩:=e
   rw[if_pos ⟨rfl,rfl,rfl⟩];exact⟨fun _=> rfl,fun d=> absurd ((hd _ _ _).2 (.inr ⟨rfl,rfl,rfl⟩)) d⟩
  ·rw[if_neg fun q=> e (hinj k' i' j' k i j hin' hin (Prod.ext q.1 (Prod.ext q.2.1 q.2.2)))]
   refine⟨fun d=>(h.at' _ _ _ hin').1 (((hd _ _ _).1 d).resolve_right e),fun d=>(h.at' _ _ _ hin').2 fun x=> d ((hd _ _ _).2 (.inl x))⟩
 ·rw[put3_at hs,if_neg fun q=> hne k i j hin (Prod.ext q.1.symm (Prod.ext q.2.1.symm q.2.2.symm))]
  exact h.out a b c habc hne
theorem F85_put{s0 ms:T3s}{φ:Nat→Nat→Nat→Nat×Nat×Nat}{val:Nat→Nat→Nat→Int}(hs:SmallT ms)(hi:∀k i j,InT ms k i j→InT s0 (φ k i j).1 (φ k i j).2.1 (φ k i j).2.2)(hinj:∀k i j k' i' j',InT ms k i j→InT ms k' i' j'→φ k i j=φ k' i' j'→k=k'∧i=i'∧j=j')
  {g:Int→Int→Int→Int→T3s→Option T3s} (hg:∀ (k i j:Nat) s,InT ms k i j→Shp s s0→numAt s (φ k i j).1 (φ k i j).2.1 (φ k i j).2.2=numAt s0 (φ k i j).1 (φ k i j).2.1 (φ k i j).2.2→g ((k:Int)+1) i j (numAt ms k i j) s=some (put3 s (φ k i j).1 (φ k i j).2.1 (φ k i j).2.2 (val k i j))):
  ∃r,F85 ms g s0=some r∧PT s0 ms φ val (fun _ _ _=> True) r:=by
 unfold F85;have hm:=hs.m;have hl1:ms.length < 4611686018427387904:=by omega
 refine forR_inv (τ:=T3s) (σ:=T3s) ms.length rfl hl1 (fun n s=> PT s0 ms φ val (fun k _ _=> k < n) s) _ (PT.zero.imp fun k i j _=> by simp) ?_ ?_
 ·intro k s hk hI
  left;rw[getI_getD hk [],ob];have hmem:ms.getD k []∈ms:=getD_mem hk [];have hmr:=hs.r _ hmem;have hl2:(ms.getD k []).length < 4611686018427387904:=by have:=hmr.1; omega
  suffices hx:∃t,forR 0 ((ms.getD k []).length:Int) _ _ s=some t∧PT s0 ms φ val (fun k' _ _=> k' < k+1) t by
   obtain⟨t,g1,g2⟩:=hx;rw[g1,ob];exact⟨t,rfl,g2⟩
  refine forR_inv (τ:=T3s) (σ:=T3s) (ms.getD k []).length rfl hl2 (fun n s=> PT s0 ms φ val (fun k' i _=> k' < k∨(k'=k∧i < n)) s) _ (hI.imp fun k i j _=> by simp) ?_ ?_
  ·intro i s hi' hI2
   left;rw[getI_getD hi' [],ob];have hmem2:(ms.getD k []).getD i []∈ms.getD k []:=getD_mem hi' [];have hl3:((ms.getD k []).getD i []).length < 4611686018427387904:=by have:=hmr.2 _ hmem2; omega
   suffices hx:∃t,forR 0 (((ms.getD k []).getD i []).length:Int) _ _ s=some t∧PT s0 ms φ val (fun k' i' _=> k' < k∨(k'=k∧i' < i+1)) t by
    obtain⟨t,g1,g2⟩:=hx;rw[g1,ob];exact⟨t,rfl,g2⟩
   refine forR_inv (τ:=T3s) (σ:=T3s) ((ms.getD k []).getD i []).length rfl hl3 (fun n s=> PT s0 ms φ val (fun k' i' j=> k' < k∨(k'=k∧(i' < i∨(i'=i∧j < n)))) s) _ (hI2.imp fun k i j _=> by simp) ?_ ?_
   ·intro j s hj hI3
    left;have hin:InT ms k i j:=⟨hk,hi',hj⟩;have hnd:¬(k < k∨(k=k∧(i < i∨(i=i∧j < j)))):=by omega
    have hold:=(hI3.at' k i j hin).2 hnd;rw[getI_getD hj 0,ob,chk_ok (by omega) (by omega),ob];have e':g ((k:Int)+1) i j (((ms.getD k []).getD i []).getD j 0) s=_:=hg k i j s hin hI3.shp hold;refine⟨_,by rw[e',ob],hI3.step hi hinj hin fun k' i' j'=> by omega⟩
   ·intro s hI3
    refine⟨s,rfl,hI3.imp fun k' i' j' hin'=>?_⟩;constructor
    ·omega
    ·intro q
     by_cases e:k'=k∧i'=i
     ·obtain⟨rfl,rfl⟩:=e
      have hj:=hin'.2.2;omega
     ·omega
  ·intro s hI2
   refine⟨s,rfl,hI2.imp fun k' i' j' hin'=>?_⟩;constructor
   ·omega
   ·intro q
    by_cases e:k'=k
    ·subst e
     have hj:=hin'.2.1;omega
    ·omega
 ·intro s hI
  refine⟨s,rfl,hI.imp fun k i j hin=>?_⟩;have:=hin.1;simp[this]
theorem F75_zero{p:Int}(hp:2≤p∧p≤7){s:T3s}{k i j:Nat}{v:Int}(h:InT s k i j)(hk:k≤1048576)(ho:numAt s k i j=0)(hv: -p < v∧v < p):
  F75 p ((k:Int)+1) i j v s=some (put3 s k i j (v% p)):=by
 obtain⟨h1,h2,h3⟩:=h;have e1:((k:Int)+1 - 1)=(k:Int):=by omega
 have ho':((s.getD k []).getD i []).getD j 0=0:=ho;have e2:(v.tmod p+p).tmod p=v% p:=by
  rcases Int.le_total 0 v with q|q
  ·rw[Int.tmod_eq_emod_of_nonneg q,Int.emod_eq_of_lt q hv.2,Int.tmod_eq_emod_of_nonneg (by omega),Int.add_emod_right,Int.emod_eq_of_lt q hv.2]
  ·have:v.tmod p=v:=by
    rw[←Int.neg_neg v,Int.neg_tmod,Int.tmod_eq_emod_of_nonneg (by omega),Int.emod_eq_of_lt (by omega) (by omega)]
   rw[this,Int.tmod_eq_emod_of_nonneg (by omega),Int.add_emod_right]
 have hb: -7 < v.tmod p∧v.tmod p < 7:=by
  have h1:=Int.tmod_lt_of_pos v (show 0 < p by omega);have h2:=Int.tmod_lt_of_pos (-v) (show 0 < p by omega);rw[Int.neg_tmod]at h2;omega
 unfold F75;rw[chk_ok (by omega) (by omega),ob,e1,getI_getD h1 [],ob,getI_getD h2 [],ob,getI_getD h3 0,ob,ho',Int.zero_add,chk_ok (by omega) (by omega),ob,remI_ok (by omega),ob,chk_ok (by omega) (by omega),ob,remI_ok (by omega),ob,e2,setI_nat h3,ob,setI_nat h2,ob,setI_nat h1];rfl
theorem F74_2_big{dims:List Int}(o:T3s)(a b:Int)(c:List Int){n:Nat}(h1:1≤n)(hn:n < dims.length)(hs:dims.length≤1048576)(hd:∀d∈dims,0≤d∧d≤1000):
  forR 0 (dims.getD n 0) (F74_2_B dims o a c n b) (F74_2_D dims o a c n b) []=some (zT dims (n - 1)):=by
 have q:=hd _ (getD_mem hn 0);have q':=hd _ (getD_mem (show n - 1 < dims.length by omega) 0);have e1:((n:Int) - 1)=((n - 1:Nat):Int):=by omega
 obtain⟨t,g1,g2⟩:=forR_inv (B:=F74_2_B dims o a c n b) (D:=F74_2_D dims o a c n b) (hi:=dims.getD n 0) (dims.getD n 0).toNat (by omega) (by omega) (fun j s=> s=List.replicate j (List.replicate (dims.getD (n - 1) 0).toNat (0:Int))) (fun t=> t=zT dims (n - 1)) (s:=[]) (by simp) (by
  rintro j s hj rfl;left;refine⟨List.replicate (j+1) (List.replicate (dims.getD (n - 1) 0).toNat (0:Int)),?_,rfl⟩;unfold F74_2_B;rw[chk_ok (by omega) (by omega),ob,e1,getI_getD (show n - 1 < dims.length by omega) 0,ob,mkL_ok (dims.getD (n - 1) 0).toNat (by omega) (by omega) (by omega),ob,app_ok (by simp; omega) (by simp; omega),ob,List.replicate_succ']) (by
  rintro s rfl;refine⟨_,rfl,?_⟩;unfold zT;rw[show n - 1+1=n by omega])
 rw[g1,g2]
theorem F74_big{p:Int}{dims:List Int}(h1:1≤dims.length)(hs:dims.length≤1048576)(hd:∀d∈dims,0≤d∧d≤1000):F74 p dims=some ⟨p,dims,zM dims⟩:=by
 have hlen:dims.length < 4611686018427387904:=by omega
 unfold F74;obtain⟨t,g1,g2⟩:=forR_from (B:=F74_1_B dims) (D:=F74_1_D dims) 1 dims.length rfl rfl h1 hlen (fun n s=> 1≤n∧s=((List.range (n - 1)).map (zT dims),p,dims)) (fun t=> t=(zM dims,p,dims)) (s:=([],p,dims)) ⟨Nat.le_refl _,rfl⟩ (by
  rintro n s hn ⟨hn1,rfl⟩;left;refine⟨((List.range n).map (zT dims),p,dims),?_,by omega,rfl⟩;unfold F74_1_B;simp only;rw[getI_getD hn 0,ob,F74_2_big _ _ _ _ hn1 hn hs hd,ob,app_ok (by simp; omega) (by simp; omega),ob];obtain⟨m,rfl⟩:∃m,n=m+1:=⟨n - 1,by omega⟩;rw[List.range_succ,List.map_append]; rfl) (by
  rintro s ⟨_,rfl⟩;exact⟨_,rfl,rfl⟩)
 have g1':forR 1 (dims.length:Int) (F74_1_B dims) (F74_1_D dims) ([],p,dims)=some t:=g1;rw[g1',g2,ob]
theorem inT_zM{dims:List Int}{k i j:Nat}:InT (zM dims) k i j↔k+1 < dims.length∧i < (dims.getD (k+1) 0).toNat∧j < (dims.getD k 0).toNat:=by
 have hl:(zM dims).length=dims.length - 1:=by simp[zM]
 unfold InT;rw[hl];constructor
 ·rintro⟨h1,h2,h3⟩
  rw[zM_at h1]at h2 h3;have h2':i < (dims.getD (k+1) 0).toNat:=by unfold zT at h2; rwa[List.length_replicate]at h2
  have e:(zT dims k).getD i []=List.replicate (dims.getD k 0).toNat (0:Int):=by
   unfold zT at h2 ⊢;rw[List.getD_eq_getElem?_getD,List.getElem?_eq_getElem h2,List.getElem_replicate]; rfl
  rw[e,List.length_replicate]at h3;exact⟨by omega,h2',h3⟩
 ·rintro⟨h1,h2,h3⟩
  have h1':k < dims.length - 1:=by omega
  rw[zM_at h1'];have h2':i < (zT dims k).length:=by unfold zT; rwa[List.length_replicate]
  have e:(zT dims k).getD i []=List.replicate (dims.getD k 0).toNat (0:Int):=by
   unfold zT at h2' ⊢;rw[List.getD_eq_getElem?_getD,List.getElem?_eq_getElem h2',List.getElem_replicate]; rfl
  exact⟨h1',h2',by rw[e,List.length_replicate]; exact h3⟩
theorem zM_zero{dims:List Int}{k i j:Nat}(hin:InT (zM dims) k i j):numAt (zM dims) k i j=0:=by
 obtain⟨h1,h2,h3⟩:=hin;have hk:k < dims.length - 1:=by simpa[zM]using h1
 rw[zM_at hk]at h2 h3;unfold numAt;rw[zM_at hk];unfold zT at h2 h3 ⊢;have e:(List.replicate (dims.getD (k+1) 0).toNat (List.replicate (dims.getD k 0).toNat (0:Int))).getD i []=List.replicate (dims.getD k 0).toNat (0:Int):=by
  rw[List.getD_eq_getElem?_getD,List.getElem?_eq_getElem h2,List.getElem_replicate]; rfl
 rw[e]at h3 ⊢;rw[List.getD_eq_getElem?_getD,List.getElem?_eq_getElem h3,List.getElem_replicate]; rfl
structure Fam (x y:GComplex) (f:T3s):Prop where
 sx:SmallC x
 sy:SmallC y
 sf:SmallT f
 vx:ValidC x
 vy:ValidC y
 pp:y.Prime=x.Prime
 l:y.Dims.length=x.Dims.length
 fl:f.length=x.Dims.length
 t:∀n,n < x.Dims.length→TabN x.Prime (dc x n) (dc y n) (f.getD n [])
theorem dc_out{x:GComplex}{n:Nat}(h:x.Dims.length≤n):dc x n=0:=by
 unfold dc; rw[List.getD_eq_getElem?_getD,List.getElem?_eq_none h]; rfl
theorem inT_maps{x:GComplex}(h:ValidC x){k i j:Nat}:InT x.Maps k i j↔k+1 < x.Dims.length∧i < dc x (k+1)∧j < dc x k:=by
 have hml:=h.ml;have hdl:=h.dl;unfold InT;constructor
 ·rintro⟨h1,h2,h3⟩
  have ht:=h.tab k h1;have a:=ht.1;have b:=(ht.2 _ (getD_mem h2 [])).1;unfold dc;exact⟨by omega,by omega,by omega⟩
 ·rintro⟨h1,h2,h3⟩
  have h1':k < x.Maps.length:=by omega
  have ht:=h.tab k h1';have a:=ht.1;unfold dc at h2 h3;have h2':i < (x.Maps.getD k []).length:=by omega
  have b:=(ht.2 _ (getD_mem h2' [])).1;exact⟨h1',h2',by omega⟩
theorem Fam.inT{x y:GComplex}{f:T3s}(F:Fam x y f){k i j:Nat}:InT f k i j↔k < x.Dims.length∧i < dc x k∧j < dc y k:=by
 have hfl:=F.fl;unfold InT;constructor
 ·rintro⟨h1,h2,h3⟩
  have ht:=F.t k (by omega);have a:=ht.len;have b:=(ht.rows _ (getD_mem h2 [])).len;exact⟨by omega,by omega,by omega⟩
 ·rintro⟨h1,h2,h3⟩
  have ht:=F.t k h1;have a:=ht.len;have h2':i < (f.getD k []).length:=by omega
  have b:=(ht.rows _ (getD_mem h2' [])).len;exact⟨by omega,h2',by omega⟩
def xd(x:GComplex)(n:Nat):Nat:=if n=0 then 0 else dc x (n - 1)
def coneD(x y:GComplex):List Int:=(List.range (x.Dims.length+1)).map fun n=>((dc y n+xd x n:Nat):Int)
def negv(p:Int)(v:List Int):List Int:=v.map fun a=>(-a)% p
theorem negv_len{p:Int}{v:List Int}:(negv p v).length=v.length:=by simp[negv]
theorem nth_negv{p:Int}{v:List Int}{j:Nat}(h:j < v.length):nth (negv p v) j=(-(nth v j))% p:=by
 rw[nth_lt (by rw[negv_len]; exact h),nth_lt h]; simp[negv]
def coneR(x y:GComplex)(f:T3s)(k:Nat):List (List Int):=
 (List.range (dc y (k+1))).map (fun i=> rowAt (y.Maps.getD k []) i++zv (xd x k))++(List.range (dc x k)).map fun i=> rowAt (f.getD k []) i++(if k=0 then []else negv x.Prime (rowAt (x.Maps.getD (k - 1) []) i))
def coneT(x y:GComplex)(f:T3s):T3s:=(List.range x.Dims.length).map (coneR x y f)
theorem coneD_len{x y:GComplex}:(coneD x y).length=x.Dims.length+1:=by simp[coneD]
theorem coneD_at{x y:GComplex}{n:Nat}(h:n≤x.Dims.length):(coneD x y).getD n 0=((dc y n+xd x n:Nat):Int):=by
 unfold coneD;rw[List.getD_eq_getElem?_getD,List.getElem?_map,List.getElem?_range (by omega)]; rfl
theorem coneD_rng{x y:GComplex}(hx:ValidC x)(hy:ValidC y):∀d∈coneD x y,0≤d∧d≤16:=fun d hd=> by
 obtain⟨n, -,rfl⟩:=List.mem_map.1 hd;have:=dc_le hy n;have:xd x n≤8:=by unfold xd; split; omega; exact dc_le hx _
 omega
theorem coneT_at{x y:GComplex}{f:T3s}{k:Nat}(h:k < x.Dims.length):(coneT x y f).getD k []=coneR x y f k:=by
 unfold coneT;rw[List.getD_eq_getElem?_getD,List.getElem?_map,List.getElem?_range h]; rfl
theorem coneR_len{x y:GComplex}{f:T3s}{k:Nat}:(coneR x y f k).length=dc y (k+1)+dc x k:=by simp[coneR]
theorem coneR_hi{x y:GComplex}{f:T3s}{k i:Nat}(h:i < dc y (k+1)):(coneR x y f k).getD i []=rowAt (y.Maps.getD k []) i++zv (xd x k):=by
 unfold coneR;rw[List.getD_eq_getElem?_getD,List.getElem?_append_left (by simpa using h),List.getElem?_map,List.getElem?_range h]; rfl
theorem coneR_lo{x y:GComplex}{f:T3s}{k i:Nat}(h:i < dc x k):(coneR x y f k).getD (dc y (k+1)+i) []=rowAt (f.getD k []) i++(if k=0 then []else negv x.Prime (rowAt (x.Maps.getD (k - 1) []) i)):=by
 unfold coneR;rw[List.getD_eq_getElem?_getD,List.getElem?_append_right (by simp),List.getElem?_map];simp only[List.length_map,List.length_range,Nat.add_sub_cancel_left];rw[List.getElem?_range h]; rfl
theorem row_ok{p:Int}{c w:Nat}{m:List (List Int)}(T:TabN p c w m){i:Nat}(h:i < c):VecOK p w (rowAt m i):=T.rows _ (row_mem (by rw[T.len]; exact h))
theorem maps_tab{x:GComplex}(h:ValidC x){k:Nat}(hk:k+1 < x.Dims.length):TabN x.Prime (dc x (k+1)) (dc x k) (x.Maps.getD k []):= .of (by
 have:=h.tab k (by have:=h.ml; omega);unfold TabAt at this
 rwa[dc_at h hk,dc_at h (show k < x.Dims.length by omega)]at this)
theorem Fam.row{x y:GComplex}{f:T3s}(F:Fam x y f){k:Nat}(hk:k < x.Dims.length):Rows x.Prime (dc y k+xd x k) (coneR x y f k):=fun r hr=> by
 have hl:=F.l;have hp0:0 < x.Prime:=by have:=F.vx.p.range; omega
 rcases List.mem_append.1 hr with q|q
 ·obtain⟨i,hi,rfl⟩:=List.mem_map.1 q
  have hi':=List.mem_range.1 hi;have hk1:k+1 < y.Dims.length:=Nat.lt_of_not_le fun c=> by rw[dc_out c]at hi'; omega
  have T:=maps_tab F.vy hk1;have hr:=row_ok T hi';refine⟨by rw[List.length_append,hr.len]; simp[zv],fun j hj=>?_⟩;rw[nth_app];split
  ·have:=hr.rng j (by rw[←hr.len]; assumption)
   rwa[F.pp]at this
  ·rw[nth_zv]; omega
 ·obtain⟨i,hi,rfl⟩:=List.mem_map.1 q
  have hi':=List.mem_range.1 hi;have hr:=row_ok (F.t k hk) hi';unfold xd;by_cases c:k=0
  ·rw[if_pos c,if_pos c,List.append_nil]; exact hr
  ·rw[if_neg c,if_neg c]
   have T:=maps_tab F.vx (k:=k - 1) (by omega);rw[show k - 1+1=k by omega]at T;have hs:=row_ok T hi';refine⟨by rw[List.length_append,hr.len,negv_len,hs.len],fun j hj=>?_⟩;rw[nth_app];split
   ·exact hr.rng j (by rw[←hr.len]; assumption)
   ·rename_i hj2
    rw[nth_negv (by rw[hs.len]; rw[hr.len]at hj2 ⊢; omega)];exact⟨Int.emod_nonneg _ (by omega),Int.emod_lt_of_pos _ hp0⟩
theorem cone_inT{x y:GComplex}{k i j:Nat}:InT (zM (coneD x y)) k i j↔k < x.Dims.length∧i < dc y (k+1)+dc x k∧j < dc y k+xd x k:=by
 rw[inT_zM,coneD_len];constructor
 ·rintro⟨h1,h2,h3⟩
  rw[coneD_at (by omega)]at h2 h3;have:xd x (k+1)=dc x k:=by unfold xd; rw[if_neg (by omega),Nat.add_sub_cancel]
  exact⟨by omega,by omega,by omega⟩
 ·rintro⟨h1,h2,h3⟩
  rw[coneD_at (by omega),coneD_at (by omega)];have:xd x (k+1)=dc x k:=by unfold xd; rw[if_neg (by omega),Nat.add_sub_cancel]
  exact⟨by omega,by omega,by omega⟩
theorem cone_shp{x y:GComplex}{f:T3s}(F:Fam x y f):Shp (zM (coneD x y)) (coneT x y f):=by
 have hl:(zM (coneD x y)).length=x.Dims.length:=by simp[zM,coneD_len]
 have hl2:(coneT x y f).length=x.Dims.length:=by simp[coneT]
 refine⟨by omega,fun k hk=>?_,fun k hk i hi=>?_⟩
 ·rw[hl2]at hk
  rw[coneT_at hk,coneR_len,zM_at (by rw[coneD_len]; omega)];unfold zT;rw[List.length_replicate,coneD_at (by omega)];unfold xd;rw[if_neg (by omega),Nat.add_sub_cancel]; omega
 ·rw[hl2]at hk
  rw[coneT_at hk]at hi ⊢;have a:=(F.row hk _ (getD_mem hi [])).len;rw[coneR_len]at hi;rw[a,zM_at (by rw[coneD_len]; omega)];have e1:xd x (k+1)=dc x k:=by unfold xd; rw[if_neg (by omega),Nat.add_sub_cancel]
  have hlt:i < (zT (coneD x y) k).length:=by unfold zT; rw[List.length_replicate,coneD_at (by omega)]; omega
  have e:(zT (coneD x y) k).getD i []=List.replicate ((coneD x y).getD k 0).toNat (0:Int):=by
   unfold zT at hlt ⊢;rw[List.getD_eq_getElem?_getD,List.getElem?_eq_getElem hlt,List.getElem_replicate]; rfl
  rw[e,List.length_replicate,coneD_at (by omega)]; omega
theorem cone_fold{x y:GComplex}{f:T3s}(F:Fam x y f){g1 g2 g3:Int→Int→Int→Int→T3s→Option T3s}
  (h1:∀ (k i j:Nat) s,InT y.Maps k i j→g1 ((k:Int)+1) i j (numAt y.Maps k i j) s=F75 x.Prime ((k:Int)+1) i j (numAt y.Maps k i j) s)
  (h2:∀ (k i j:Nat) s,InT x.Maps k i j→g2 ((k:Int)+1) i j (numAt x.Maps k i j) s=F75 x.Prime (((k+1:Nat):Int)+1) ((dc y (k+2)+i:Nat):Int) ((dc y (k+1)+j:Nat):Int) (-(numAt x.Maps k i j)) s)
  (h3:∀ (k i j:Nat) s,InT f k i j→g3 ((k:Int)+1) i j (numAt f k i j) s=F75 x.Prime ((k:Int)+1) ((dc y (k+1)+i:Nat):Int) j (numAt f k i j) s):
  ∃r1 r2,F85 y.Maps g1 (zM (coneD x y))=some r1∧F85 x.Maps g2 r1=some r2∧F85 f g3 r2=some (coneT x y f):=by
 have hp:=F.vx.p.range;have hl:=F.l;have hdl:=F.vx.dl;have sy:SmallT y.Maps:=⟨F.sy.m,F.sy.r⟩;have sx:SmallT x.Maps:=⟨F.sx.m,F.sx.r⟩;have rx:=(MapsOK.self F.vx).rng;have ry:=(MapsOK.self F.vy).rng;have rf:∀k i j,InT f k i j→0≤numAt f k i j∧numAt f k i j < x.Prime:=fun k i j hin=> by
  obtain⟨a,b,c⟩:=F.inT.1 hin;have:=(row_ok (F.t k a) b).rng j c;exact this
 have e1:∀k,xd x (k+1)=dc x k:=fun k=> by unfold xd; rw[if_neg (by omega),Nat.add_sub_cancel]
 -- first
 obtain⟨r1,a1,a2⟩:=F85_put (s0:=zM (coneD x y)) (ms:=y.Maps) (φ:=fun k i j=>(k,i,j)) (val:=fun k i j=> numAt y.Maps k i j% x.Prime) (g:=g1) sy (fun k i j hin=> by
  obtain⟨a,b,c⟩:=(inT_maps F.vy).1 hin;exact cone_inT.2 ⟨by(try dsimp only); omega,by(try dsimp only); omega,by(try dsimp only); omega⟩) (fun k i j k' i' j' _ _ e=> by simpa using e) (fun k i j s hin hsh hz=> by
  obtain⟨a,b,c⟩:=(inT_maps F.vy).1 hin;have hc:InT (zM (coneD x y)) k i j:=cone_inT.2 ⟨by(try dsimp only); omega,by(try dsimp only); omega,by(try dsimp only); omega⟩;have hr:=ry k i j hin;rw[F.pp]at hr;rw[h1 k i j s hin];exact F75_zero hp (hsh.inT hc) (by omega) (by simp only at hz; rw[hz]; exact zM_zero hc) (by omega))
 -- second
 obtain⟨r2,b1,b2⟩:=F85_put (s0:=r1) (ms:=x.Maps) (φ:=fun k i j=>(k+1,dc y (k+2)+i,dc y (k+1)+j)) (val:=fun k i j=>(-(numAt x.Maps k i j))% x.Prime) (g:=g2) sx (fun k i j hin=> by
  obtain⟨a,b,c⟩:=(inT_maps F.vx).1 hin;have e2:dc y (k+1+1)=dc y (k+2):=rfl;exact a2.shp.inT (cone_inT.2 ⟨by(try dsimp only); omega,by(try dsimp only); omega,by(try dsimp only); rw[e1]; omega⟩)) (fun k i j k' i' j' _ _ e=> by
  simp only[Prod.mk.injEq]at e;obtain⟨e1,e2,e3⟩:=e;have:k=k':=by omega
  subst this;exact⟨rfl,by omega,by omega⟩) (fun k i j s hin hsh hz=> by
  obtain⟨a,b,c⟩:=(inT_maps F.vx).1 hin;have e2:dc y (k+1+1)=dc y (k+2):=rfl;have hc:InT (zM (coneD x y)) (k+1) (dc y (k+2)+i) (dc y (k+1)+j):=cone_inT.2 ⟨by(try dsimp only); omega,by(try dsimp only); omega,by(try dsimp only); rw[e1]; omega⟩;have hr:=rx k i j hin;rw[h2 k i j s hin];refine F75_zero hp (hsh.inT (a2.shp.inT hc)) (by omega) ?_ (by omega);simp only at hz;rw[hz,a2.out _ _ _ hc fun k' i' j' hin' e=>?_]
  ·exact zM_zero hc
  ·simp only[Prod.mk.injEq]at e
   obtain⟨f1,f2,f3⟩:=e;obtain⟨a',b',c'⟩:=(inT_maps F.vy).1 hin';subst f1;omega)
 -- third
 obtain⟨r3,c1,c2⟩:=F85_put (s0:=r2) (ms:=f) (φ:=fun k i j=>(k,dc y (k+1)+i,j)) (val:=fun k i j=> numAt f k i j% x.Prime) (g:=g3) F.sf (fun k i j hin=> by
  obtain⟨a,b,c⟩:=F.inT.1 hin;exact b2.shp.inT (a2.shp.inT (cone_inT.2 ⟨by(try dsimp only); omega,by(try dsimp only); omega,by(try dsimp only); omega⟩))) (fun k i j k' i' j' _ _ e=> by
  simp only[Prod.mk.injEq]at e;obtain⟨e1,e2,e3⟩:=e;subst e1;exact⟨rfl,by omega,by omega⟩) (fun k i j s hin hsh hz=> by
  obtain⟨a,b,c⟩:=F.inT.1 hin;have hc:InT (zM (coneD x y)) k (dc y (k+1)+i) j:=cone_inT.2 ⟨by(try dsimp only); omega,by(try dsimp only); omega,by(try dsimp only); omega⟩;have hr:=rf k i j hin;rw[h3 k i j s hin];refine F75_zero hp (hsh.inT (b2.shp.inT (a2.shp.inT hc))) (by omega) ?_ (by omega);simp only at hz;rw[hz,b2.out _ _ _ (a2.shp.inT hc) fun k' i' j' hin' e=>?_,a2.out _ _ _ hc fun k' i' j' hin' e=>?_]
  ·exact zM_zero hc
  ·simp only[Prod.mk.injEq]at e
   obtain⟨f1,f2,f3⟩:=e;obtain⟨a',b',c'⟩:=(inT_maps F.vy).1 hin';subst f1;omega
  ·simp only[Prod.mk.injEq]at e
   obtain⟨f1,f2,f3⟩:=e;subst f1;omega)
 refine⟨r1,r2,a1,b1,?_⟩;have hsh:=(c2.shp.trans (b2.shp.trans a2.shp));have hS:=cone_shp F;have:r3=coneT x y f:=(hsh.trans hS).eq fun k i j hin=> by
  have hz:=hS.inT hin;obtain⟨q1,q2,q3⟩:=cone_inT.1 hz;have hR:=F.row q1;by_cases hi:i < dc y (k+1)
  ·have hk1:k+1 < y.Dims.length:=Nat.lt_of_not_le fun c=> by rw[dc_out c]at hi; omega
   have T:=maps_tab F.vy hk1;have hr:=row_ok T hi;have en:numAt (coneT x y f) k i j=nth (rowAt (y.Maps.getD k []) i++zv (xd x k)) j:=by unfold numAt; rw[coneT_at q1,coneR_hi hi]; rfl
   rw[en,nth_app,hr.len];have o3:=c2.out k i j (b2.shp.inT (a2.shp.inT hz)) fun k' i' j' hin' e=> by
    simp only[Prod.mk.injEq]at e;obtain⟨f1,f2,f3⟩:=e;subst f1;omega
   have o2:=b2.out k i j (a2.shp.inT hz) fun k' i' j' hin' e=> by
    simp only[Prod.mk.injEq]at e;obtain⟨f1,f2,f3⟩:=e;subst f1;have e2:dc y (k'+1+1)=dc y (k'+2):=rfl;omega
   rw[o3,o2];by_cases hj:j < dc y k
   ·have hin':InT y.Maps k i j:=(inT_maps F.vy).2 ⟨hk1,hi,hj⟩
    have:=(a2.at' k i j hin').1 trivial;simp only at this;rw[this,if_pos hj];have hrg:=ry k i j hin';rw[F.pp]at hrg;rw[Int.emod_eq_of_lt hrg.1 hrg.2]; rfl
   ·rw[if_neg hj,nth_zv,a2.out k i j hz fun k' i' j' hin' e=>?_]
    ·exact zM_zero hz
    ·simp only[Prod.mk.injEq]at e
     obtain⟨f1,f2,f3⟩:=e;obtain⟨a',b',c'⟩:=(inT_maps F.vy).1 hin';subst f1;omega
  ·obtain⟨i',rfl⟩:∃i',i=dc y (k+1)+i':=⟨i - dc y (k+1),by omega⟩
   have hi':i' < dc x k:=by omega
   have hr:=row_ok (F.t k q1) hi';have en:numAt (coneT x y f) k (dc y (k+1)+i') j=nth (rowAt (f.getD k []) i'++(if k=0 then []else negv x.Prime (rowAt (x.Maps.getD (k - 1) []) i'))) j:=by unfold numAt; rw[coneT_at q1,coneR_lo hi']; rfl
   rw[en,nth_app,hr.len];by_cases hj:j < dc y k
   ·have hin':InT f k i' j:=F.inT.2 ⟨q1,hi',hj⟩
    have:=(c2.at' k i' j hin').1 trivial;simp only at this;rw[this,if_pos hj];have hrg:=rf k i' j hin';rw[Int.emod_eq_of_lt hrg.1 hrg.2]; rfl
   ·have hk:k≠0:=fun c=> by subst c; unfold xd at q3; rw[if_pos rfl]at q3; omega
    obtain⟨m,rfl⟩:∃m,k=m+1:=⟨k - 1,by omega⟩;rw[e1]at q3;obtain⟨j',rfl⟩:∃j',j=dc y (m+1)+j':=⟨j - dc y (m+1),by omega⟩;have hin':InT x.Maps m i' j':=(inT_maps F.vx).2 ⟨by omega,hi',by omega⟩;have h:=(b2.at' m i' j' hin').1 trivial;simp only at h;rw[c2.out _ _ _ (b2.shp.inT (a2.shp.inT hz)) fun k' i'' j'' hin'' e=>?_]
    ·have T:=maps_tab F.vx (k:=m) (by omega)
     have hs:=row_ok T hi';rw[h,if_neg hj,if_neg hk,Nat.add_sub_cancel_left,Nat.add_sub_cancel,nth_negv (by rw[hs.len]; omega)];rfl
    ·simp only[Prod.mk.injEq]at e
     obtain⟨f1,f2,f3⟩:=e;obtain⟨a',b',c'⟩:=F.inT.1 hin'';subst f1;omega
 rw[c1,this]
structure WideC (x:GComplex):Prop where
 p:IsP x.Prime
 dl:1≤x.Dims.length∧x.Dims.length≤100
 ml:x.Maps.length+1=x.Dims.length
 dims:∀d∈x.Dims,0≤d∧d≤100
 tab:∀k,k < x.Maps.length→TabAt x k
theorem WideC.dim{x:GComplex}(h:WideC x){n:Nat}(hn:n < x.Dims.length):0≤x.Dims.getD n 0∧x.Dims.getD n 0≤100:=h.dims _ (getD_mem hn 0)
theorem ValidC.wide{x:GComplex}(h:ValidC x):WideC x:=⟨h.p,⟨h.dl.1,by have:=h.dl.2; omega⟩,h.ml,fun d hd=> by have:=h.dims d hd; omega,h.tab⟩
theorem dc_lew{x:GComplex}(h:WideC x)(n:Nat):dc x n≤100:=by
 unfold dc;by_cases hn:n < x.Dims.length
 ·have:=h.dim hn; omega
 ·rw[List.getD_eq_getElem?_getD,List.getElem?_eq_none (by omega)]; simp
theorem dc_atw{x:GComplex}(h:WideC x){n:Nat}(hn:n < x.Dims.length):x.Dims.getD n 0=(dc x n:Int):=by
 have:=h.dim hn;unfold dc; omega
theorem F99_dcw{x:GComplex}(hx:SmallC x)(h:WideC x){n:Nat}(hn:n≤x.Dims.length):F99 x (n:Int)=some (dc x n:Int):=by
 have hd:=hx.d;by_cases c:n < x.Dims.length
 ·rw[F99_at hx.d c,dc_atw h c]
 ·have e:n=x.Dims.length:=by omega
  subst e;have:dc x x.Dims.length=0:=by unfold dc; rw[List.getD_eq_getElem?_getD,List.getElem?_eq_none (by omega)]; rfl
  unfold F99;rw[chk_ok (by omega) (by omega),ob,F54_eq,ob,if_neg (by simp; omega),this];rfl
theorem bounds_wide{x:GComplex}(hx:SmallC x)(h:WideC x){n:Nat}(hn:n < x.Dims.length):∃B,F251 x (n:Int)=some B∧F186 x (n:Int)=some B∧Red x.Prime (dc x n) B:=by
 have hd:=hx.d;have hml:=h.ml;have hdl:=h.dl;unfold F251 F186;rw[chk_ok (by omega) (by omega),ob,if_neg (by omega),F86_eq hx.d,ob];by_cases c:n+1 < x.Dims.length
 ·have ht:=h.tab n (by omega)
  have hr:Rows x.Prime (dc x n) (x.Maps.getD n []):=fun r hr=>(ht.2 r hr).vec;have hl:=ht.1;have hd1:=h.dim c;have:=dc_lew h n;obtain⟨B,b1,b2,b3⟩:=reduce_same h.p hr (by omega) (by omega);rw[show(n:Int)+1=((n+1:Nat):Int) by omega,F76_eq hx.d c (by omega),ob,b1,ob,if_neg (by omega),getI_getD (show n < x.Maps.length by omega) [],ob,b2,ob];exact⟨B,rfl,rfl,b3.red⟩
 ·obtain⟨N,n1, -,n3⟩:=reduce_same (p:=x.Prime) (w:=dc x n) h.p (rows:=[]) (fun r hr=>(nomatch hr)) (by have:=dc_lew h n; omega) (by simp)
  have hN:N=[]:=by have:=n3.same (by have:=h.p.range; omega) (EchOf.nil x.Prime (dc x n)); exact this
  subst hN;have e:F76 x ((n:Int)+1)=some []:=by
   unfold F76;rw[chk_ok (by omega) (by omega),ob,F54_eq,ob,if_neg (by simp; omega)];have h99:=F99_dcw hx h (n:=n+1) (by omega);have h0:dc x (n+1)=0:=by unfold dc; rw[List.getD_eq_getElem?_getD,List.getElem?_eq_none (by omega)]; rfl
   rw[h0]at h99;obtain⟨t,g1,g2⟩:=loopW_inv (S:=F76_1_S x ((n:Int)+1)) (fun s=> 0) (fun s=> s=([],0)) (fun t=> t=[]) (s:=([],0)) rfl (by
    rintro s rfl;right;unfold F76_1_S;simp only;rw[show(n:Int)+1=((n+1:Nat):Int) by omega,h99,ob,if_neg (by simp)];exact⟨_,rfl,rfl⟩)
   rw[g1,ob,g2]
  rw[e,ob,n1,ob,if_pos (by omega)];exact⟨[],rfl,rfl,n3.red⟩
theorem lin_okof{p:Int}(hp:IsP p){c w:Nat}{m:List (List Int)}(hml:m.length=c)(hm:Rows p w m)(hc:c≤1000)(hw:w≤1000){v:List Int}(hv:VecOK p c v):LinOK p w v m:=by
 have hvl:=hv.len;exact⟨hp.range,fun y hy=> by
  obtain⟨k,hk,rfl⟩:=List.getElem_of_mem hy;have:=hv.rng k (by omega)
  rwa[nth_lt hk]at this,by omega,fun l hl=>⟨(hm l hl).len,fun y hy=> by
  have hl':=hm l hl;have hll:=hl'.len;obtain⟨k,hk,rfl⟩:=List.getElem_of_mem hy;have:=hl'.rng k (by omega)
  rwa[nth_lt hk]at this⟩,by omega,by omega⟩
theorem lin_vec{p:Int}{w:Nat}{m:List (List Int)}{v:List Int}(H:LinOK p w v m):VecOK p w (lin p w v m):=by
 have hok:=linN_ok H v.length (Nat.le_refl _);refine⟨hok.1,fun j hj=>?_⟩;have hj':j < (lin p w v m).length:=by rw[lin_len H]; exact hj
 rw[nth_lt hj'];exact hok.2 _ (List.getElem_mem hj')
structure ROK (x:GComplex) (c:GContraction) (ms:T3s):Prop where
 kk:KOK x c
 mm:MapsOK x ms
theorem ROK.tab{x:GComplex}{c:GContraction}{ms:T3s}(R:ROK x c ms){n:Nat}(hn:n+1 < x.Dims.length):TabN x.Prime (dc x (n+1)) (dc x n) (ms.getD n []):= .of (by
 have hv:=R.kk.vx;have:=R.mm.t n (by have:=R.mm.l; have:=hv.ml; omega);unfold TabM at this
 rwa[dc_at hv hn,dc_at hv (show n < x.Dims.length by omega)]at this)
def turnF(x:GComplex)(c:GContraction)(ms:T3s)(n:Nat)(v:List Int):List Int:=if n+1 < x.Dims.length then lin x.Prime (dc x n) (bkF x c n v) (ms.getD n [])else zv (dc x n)
def itr(x:GComplex)(c:GContraction)(ms:T3s)(n:Nat)(v:List Int):Nat→List Int
 |0=> v
 |k+1=> turnF x c ms n (itr x c ms n v k)
structure Rds (x:GComplex) (c:GContraction) (ms:T3s) (S:Nat→Nat→Prop) (o:Nat):Prop where
 le:o≤9
 all:∀n i,S n i→n < x.Dims.length→i < dc x n→Zr (itr x c ms n (unitv (dc x n) i) o)
 least:∀k,k < o→∃n i,S n i∧n < x.Dims.length∧i < dc x n∧¬Zr (itr x c ms n (unitv (dc x n) i) k)
theorem Rds.imp{x:GComplex}{c:GContraction}{ms:T3s}{S S':Nat→Nat→Prop}{o:Nat}(h:Rds x c ms S o)(e:∀a b,a < x.Dims.length→b < dc x a→(S a b↔S' a b)):Rds x c ms S' o:=
 ⟨h.le,fun a b q ha hb=> h.all a b ((e a b ha hb).2 q) ha hb,fun k hk=> by
  obtain⟨a,b,q1,q2,q3,q4⟩:=h.least k hk;exact⟨a,b,(e a b q2 q3).1 q1,q2,q3,q4⟩⟩
theorem all_for1{n:Nat}{B:Int→Unit→Option (Unit⊕(Unit⊕Bool))}{D:Int→Unit→Option (Unit⊕Bool)}(P:Nat→Prop)(h1n:1≤n)(hn:n≤1000000)(hB:∀i:Nat,1≤i→i < n→LTells (B i ()) (P i))(hD:∀i,D i ()=some (.inl ())):
  ∃b:Bool,forR 1 (n:Int) B D ()=some (if b=true then .inl ()else .inr false)∧(b=true↔∀i,1≤i→i < n→P i):=by
 obtain⟨t,h1,b,h2,h3⟩:=forR_from (B:=B) (D:=D) 1 n rfl rfl h1n (by omega) (fun i _=> 1≤i∧∀k,1≤k→k < i→P k) (fun t=>∃b:Bool,t=(if b=true then .inl ()else .inr false)∧(b=true↔∀i,1≤i→i < n→P i)) (s:=()) ⟨Nat.le_refl _,fun k h1 hk=> by omega⟩ (by
  rintro i _ hi ⟨hi1,hI⟩;obtain⟨b,e,q⟩:=hB i hi1 hi;cases b with
  |true=>
   left;refine⟨(),e,by omega,fun k hk1 hk=>?_⟩;by_cases c:k=i
   ·subst c; exact q.1 rfl
   ·exact hI k hk1 (by omega)
  |false=>
   right;refine⟨.inr false,e,false,rfl,?_⟩;simp only[Bool.false_eq_true,false_iff];intro h;have:=q.2 (h i hi1 hi);cases this) (by
  rintro _ ⟨-,hI⟩;exact⟨.inl (),hD _,true,rfl,by simp only[true_iff]; exact hI⟩)
 subst h2;exact⟨b,h1,h3⟩
theorem all_W1{n:Nat}{S:Int→Option (Int⊕(Unit⊕Bool))}(P:Nat→Prop)(h1n:1≤n)(hS:∀i:Nat,1≤i→i < n→WTells (S i) i (P i))(hE:S n=some (.inr (.inl ()))):
  ∃b:Bool,loopW S 1=some (if b=true then .inl ()else .inr false)∧(b=true↔∀i,1≤i→i < n→P i):=by
 obtain⟨t,h1,b,h2,h3⟩:=loopW_inv (S:=S) (fun j=>(n - j).toNat) (fun j=>∃i:Nat,j=i∧1≤i∧i≤n∧∀k,1≤k→k < i→P k) (fun t=>∃b:Bool,t=(if b=true then .inl ()else .inr false)∧(b=true↔∀i,1≤i→i < n→P i)) (s:=1) ⟨1,rfl,Nat.le_refl _,h1n,fun k h1 hk=> by omega⟩ (by
  rintro _ ⟨i,rfl,hi1,hi,hI⟩;by_cases hlt:i < n
  ·obtain⟨b,e,q⟩:=hS i hi1 hlt
   cases b with
   |true=>
    left;refine⟨(i:Int)+1,e,⟨i+1,by simp,by omega,hlt,fun k hk1 hk=>?_⟩,by omega⟩;by_cases c:k=i
    ·subst c; exact q.1 rfl
    ·exact hI k hk1 (by omega)
   |false=>
    right;refine⟨.inr false,e,false,rfl,?_⟩;simp only[Bool.false_eq_true,false_iff];intro h;have:=q.2 (h i hi1 hlt);cases this
  ·right
   have:i=n:=by omega
   subst this;exact⟨.inl (),hE,true,rfl,by simp only[true_iff]; exact hI⟩)
 subst h2;exact⟨b,h1,h3⟩
def brk1:Unit⊕(Unit⊕Int)→Unit⊕Int
 | .inl _=> .inl ()
 | .inr t=> t
def brk2:Unit⊕(Unit⊕Int)→Unit⊕(Unit⊕Int)→Unit⊕Int
 | .inr t,_=> t
 | .inl _,.inr t=> t
 | .inl _,.inl _=> .inl ()
theorem loop1{B:Int→Unit→Option (Unit⊕(Unit⊕Int))}{D:Int→Unit→Option (Unit⊕Int)}(hD:∀i,D i ()=some (.inl ())){r:Unit⊕(Unit⊕Int)}(h:B 0 ()=some r):forR 0 1 B D ()=some (brk1 r):=by
 obtain⟨t,g1,g2⟩:=forR_inv (B:=B) (D:=D) (hi:=1) 1 rfl (by decide) (fun i _=> i=1→r= .inl ()) (fun t=> t=brk1 r) (s:=()) (fun c=> by cases c) (by
  rintro i _ hi hI;have:i=0:=by omega
  subst this;cases r with
  |inl u=> left; exact⟨(),h,fun _=> rfl⟩
  |inr t=> right; exact⟨t,h,rfl⟩) (by
  rintro _ hI;exact⟨.inl (),hD _,by rw[hI rfl]; rfl⟩)
 rw[g1,g2]
theorem loop2{B:Int→Unit→Option (Unit⊕(Unit⊕Int))}{D:Int→Unit→Option (Unit⊕Int)}(hD:∀i,D i ()=some (.inl ())){r0 r1:Unit⊕(Unit⊕Int)}(h0:B 0 ()=some r0)(h1:B 1 ()=some r1):forR 0 2 B D ()=some (brk2 r0 r1):=by
 obtain⟨t,g1,g2⟩:=forR_inv (B:=B) (D:=D) (hi:=2) 2 rfl (by decide) (fun i _=>(1≤i→r0= .inl ())∧(2≤i→r1= .inl ())) (fun t=> t=brk2 r0 r1) (s:=()) ⟨fun c=> by omega,fun c=> by omega⟩ (by
  rintro i _ hi ⟨hI0,hI1⟩;by_cases e:i=0
  ·subst e
   cases r0 with
   |inl u=> left; exact⟨(),h0,fun _=> rfl,fun c=> by omega⟩
   |inr t=> right; exact⟨t,h0,by cases r1 <;> rfl⟩
  ·have:i=1:=by omega
   subst this;have:=hI0 (by omega);subst this;cases r1 with
   |inl u=> left; exact⟨(),h1,fun _=> rfl,fun _=> rfl⟩
   |inr t=> right; exact⟨t,h1,rfl⟩) (by
  rintro _ ⟨hI0,hI1⟩;exact⟨.inl (),hD _,by rw[hI0 (by omega),hI1 (by omega)]; rfl⟩)
 rw[g1,g2]
theorem pair_same{x y:GComplex}(hx:SmallC x)(hy:SmallC y):∃c,F302 x y=some c∧F305 [x,y]=some c∧(c=0→ValidC x∧ValidC y∧y.Prime=x.Prime∧y.Dims.length=x.Dims.length):=by
 obtain⟨b,d1,d2,d3⟩:=(F39_tells hx).same (F42_tells hx);obtain⟨b',e1,e2,e3⟩:=(F39_tells hy).same (F42_tells hy);have hB0:F305_1_B [x,y] 0 ()=some (if b=true then .inl ()else .inr (.inr 1)):=by
  unfold F305_1_B;rw[show getI [x,y] 0=some x from rfl,ob,d2,ob];cases b <;> rfl
 have hB1:F305_1_B [x,y] 1 ()=some (if b'=true then .inl ()else .inr (.inr 1)):=by
  unfold F305_1_B;rw[show getI [x,y] 1=some y from rfl,ob,e2,ob];cases b' <;> rfl
 have hC0:F305_2_B [x,y] 0 ()=some (.inl ()):=by
  unfold F305_2_B;rw[show getI [x,y] 0=some x from rfl,ob,ob,if_pos rfl,if_pos rfl]
 have hC1:F305_2_B [x,y] 1 ()=some (if y.Prime=x.Prime then if(y.Dims.length:Int)=(x.Dims.length:Int)then .inl ()else .inr (.inr 2)else .inr (.inr 2)):=by
  unfold F305_2_B;rw[show getI [x,y] 1=some y from rfl,show getI [x,y] 0=some x from rfl,ob,ob];by_cases c1:y.Prime=x.Prime
  ·rw[if_pos c1]
   by_cases c2:(y.Dims.length:Int)=x.Dims.length
   ·rw[if_pos c2,if_pos c1,if_pos c2]
   ·rw[if_neg c2,if_pos c1,if_neg c2]
  ·rw[if_neg c1,if_neg c1]
 have l1:=loop2 (B:=F305_1_B [x,y]) (D:=F305_1_D [x,y]) (fun i=> rfl) hB0 hB1;have l2:=loop2 (B:=F305_2_B [x,y]) (D:=F305_2_D [x,y]) (fun i=> rfl) hC0 hC1;have e0:((([x,y]:List GComplex).length:Nat):Int)=2:=rfl;unfold F302 F305;rw[d1,ob,e0,l1];cases b with
 |false=> exact⟨1,rfl,rfl,fun c=> by cases c⟩
 |true=>
  rw[if_pos rfl,e1,ob];cases b' with
  |false=> exact⟨1,rfl,rfl,fun c=> by cases c⟩
  |true=>
   rw[if_pos rfl];simp only[if_true,ob];rw[l2];by_cases c1:y.Prime=x.Prime
   ·rw[if_pos c1.symm,if_pos c1]
    by_cases c2:(y.Dims.length:Int)=x.Dims.length
    ·rw[if_pos c2.symm,if_pos c2]
     exact⟨0,rfl,rfl,fun _=>⟨d3.1 rfl,e3.1 rfl,c1,by omega⟩⟩
    ·rw[if_neg fun q=> c2 q.symm,if_neg c2]
     exact⟨2,rfl,rfl,fun c=> by cases c⟩
   ·rw[if_neg fun q=> c1 q.symm,if_neg c1]
    exact⟨2,rfl,rfl,fun c=> by cases c⟩
def FamP(x y:GComplex)(f:T3s):Prop:=(f.length:Int)=x.Dims.length∧∀n,n < f.length→TableOK x.Prime (dc x n) (dc y n) (f.getD n [])
theorem F303_tells{x y:GComplex}{f:T3s}(hx:SmallC x)(hy:SmallC y)(hf:SmallT f)(vx:ValidC x)(vy:ValidC y)(hp:y.Prime=x.Prime)(hl:y.Dims.length=x.Dims.length):Tells (F303 x y f 0) (FamP x y f):=by
 have hr:=vx.p.range;have hdl:=vx.dl;unfold F303 FamP;by_cases c1:(f.length:Int)=x.Dims.length
 case neg=> rw[if_neg c1]; exact .of_false rfl fun k=> c1 k.1
 rw[if_pos c1];obtain⟨b,h1,h2⟩:=all_for (B:=F303_1_B x y f 0) (D:=F303_1_D x y f 0) (fun n=> TableOK x.Prime (dc x n) (dc y n) (f.getD n [])) (show f.length≤1000000 by omega) (fun n hn=> by
  have hmem:=getD_mem hn [];have hfr:=hf.r _ hmem;have hdy:=dc_le vy n;unfold F303_1_B;rw[getI_getD hn [],ob,getI_getD (show n < x.Dims.length by omega) 0,ob,dc_at vx (show n < x.Dims.length by omega)];refine LTells.iff (P:=((f.getD n []).length:Int)=dc x n∧∀i,i < (f.getD n []).length→RowOK x.Prime (dc y n) ((f.getD n []).getD i [])) (LTells.ite fun q1=>?_) ?_
  ·obtain⟨t,t1,t2⟩:=all_W (n:=(f.getD n []).length) (S:=F303_2_S x y f 0 (n:Int)) (fun i=> RowOK x.Prime (dc y n) ((f.getD n []).getD i [])) (fun i hi=> by
    have hrow:=hfr.2 _ (getD_mem hi []);unfold F303_2_S;rw[getI_getD hn [],ob,if_pos (by omega),getI_getD hi [],ob,chk_ok (by omega) (by omega),ob,show(n:Int)+0=(n:Int) by omega,F99_dc hy vy (by omega),ob];by_cases c2:(((f.getD n []).getD i []).length:Int)=dc y n
    ·rw[if_pos c2]
     obtain⟨s,s1,s2⟩:=all_W (n:=((f.getD n []).getD i []).length) (S:=F303_3_S x y f 0 (n:Int) (i:Int)) (fun j=> 0≤nth ((f.getD n []).getD i []) j∧nth ((f.getD n []).getD i []) j < x.Prime) (fun j hj=> by
      unfold F303_3_S;rw[getI_getD hn [],ob,getI_getD hi [],ob,if_pos (by omega),nth_get hj,ob,chk_ok (by omega) (by omega),ob,F54_eq,ob,chk_ok (by omega) (by omega),ob];exact⟨decide (0≤nth ((f.getD n []).getD i []) j∧nth ((f.getD n []).getD i []) j≤x.Prime - 1),by split <;> rename_i q <;> simp at q ⊢ <;> simp[q],by simp; omega⟩) (by
      unfold F303_3_S;rw[getI_getD hn [],ob,getI_getD hi [],ob,if_neg (by omega)])
     rw[s1,ob];cases s with
     |true=>
      simp only[if_true];rw[chk_ok (by omega) (by omega),ob];refine⟨true,rfl,fun _=>⟨c2,fun y hy=>?_⟩,fun _=> rfl⟩;obtain⟨j,hj,rfl⟩:=List.getElem_of_mem hy;have:=s2.1 rfl j hj
      rwa[nth_lt hj]at this
     |false=>
      refine⟨false,rfl,fun c=> by(cases c),fun q=>?_⟩;exact s2.2 fun j hj=> by rw[nth_lt hj]; exact q.2 _ (List.getElem_mem hj)
    ·rw[if_neg c2]
     exact⟨false,rfl,by simp only[Bool.false_eq_true,false_iff]; exact fun q=> c2 q.1⟩) (by
    unfold F303_2_S;rw[getI_getD hn [],ob,if_neg (by omega)])
   rw[t1,ob];cases t with
   |true=> exact⟨true,rfl,by simp only[true_iff]; exact t2.1 rfl⟩
   |false=> exact⟨false,rfl,by simp only[Bool.false_eq_true,false_iff]; exact fun q=> by have:=t2.2 q; cases this⟩
  ·unfold TableOK
   refine and_congr_right fun _=>⟨fun q r hr=>?_,fun q i hi=> q _ (getD_mem hi [])⟩;obtain⟨i,hi,rfl⟩:=List.getElem_of_mem hr;have:=q i hi
   rwa[show(f.getD n []).getD i []=(f.getD n [])[i] by rw[List.getD_eq_getElem?_getD,List.getElem?_eq_getElem hi]; rfl]at this) fun i=> rfl
 rw[h1,ob];cases b with
 |true=> exact .of_true rfl ⟨c1,h2.1 rfl⟩
 |false=> exact .of_false rfl fun k=> by have:=h2.2 k.2; cases this
theorem F313_tells{x y:GComplex}{f:T3s}(hx:SmallC x)(hy:SmallC y)(hf:SmallT f)(vx:ValidC x)(vy:ValidC y)(hp:y.Prime=x.Prime)(hl:y.Dims.length=x.Dims.length):Tells (F313 x y f 0) (FamP x y f):=by
 have hr:=vx.p.range;have hdl:=vx.dl;unfold F313 FamP;by_cases c1:(f.length:Int)=x.Dims.length
 case neg=> rw[if_neg c1]; exact .of_false rfl fun k=> c1 k.1
 rw[if_pos c1];obtain⟨b,h1,h2⟩:=all_for (B:=F313_1_B x y f 0) (D:=F313_1_D x y f 0) (fun n=> TableOK x.Prime (dc x n) (dc y n) (f.getD n [])) (show f.length≤1000000 by omega) (fun n hn=> by
  have hmem:=getD_mem hn [];have hfr:=hf.r _ hmem;have hdy:=dc_le vy n;unfold F313_1_B;rw[getI_getD hn [],ob,getI_getD (show n < x.Dims.length by omega) 0,ob,dc_at vx (show n < x.Dims.length by omega)];refine LTells.iff (P:=((f.getD n []).length:Int)=dc x n∧(∀r∈f.getD n [],RowOK x.Prime (dc y n) r)∧True) (LTells.ite fun q1=>?_) (by unfold TableOK; simp);rw[chk_ok (by omega) (by omega),ob,show(n:Int)+0=(n:Int) by omega,F102_dc hy vy (by omega),ob];exact(F90_tells hr (by omega) (fun r hr=> by have:=hfr.2 r hr; omega)).then_L fun _=> .yes) fun i=> rfl
 rw[h1,ob];cases b with
 |true=> exact .of_true rfl ⟨c1,h2.1 rfl⟩
 |false=> exact .of_false rfl fun k=> by have:=h2.2 k.2; cases this
theorem FamP.fam{x y:GComplex}{f:T3s}(hx:SmallC x)(hy:SmallC y)(hf:SmallT f)(vx:ValidC x)(vy:ValidC y)(hp:y.Prime=x.Prime)(hl:y.Dims.length=x.Dims.length)(h:FamP x y f):Fam x y f:=
 ⟨hx,hy,hf,vx,vy,hp,hl,by have:=h.1; omega,fun n hn=> .of (h.2 n (by have:=h.1; omega))⟩
theorem F276_one{f:T3s}{g:T3s→Option Bool}{b:Bool}(h:g f=some b):F276 [f] g=some b:=by
 unfold F276 F307;have e0:((([f]:List T3s).length:Nat):Int)=1:=rfl;have hB:F307_1_B [f] g 0 ()=some (if b=true then .inr (.inr 0)else .inl ()):=by
  unfold F307_1_B;rw[show getI [f] 0=some f from rfl,ob,h,ob];cases b <;> rfl
 rw[e0,loop1 (D:=F307_1_D [f] g) (fun i=> rfl) hB];cases b <;> rfl
theorem fam_same{x y:GComplex}{f:T3s}(hx:SmallC x)(hy:SmallC y)(hf:SmallT f):∃c,F270 x y [f]=some c∧F274 x y [f]=some c∧(c=0→Fam x y f):=by
 obtain⟨c,c1,c2,c3⟩:=pair_same hx hy;unfold F270 F274;rw[c1,c2,ob,ob];by_cases h0:c=0
 case neg=> rw[if_neg h0,if_neg h0]; exact⟨_,rfl,rfl,fun q=> absurd q h0⟩
 obtain⟨vx,vy,hp,hl⟩:=c3 h0;subst h0;rw[if_pos rfl,if_pos rfl];obtain⟨b,d1,d2,d3⟩:=(F303_tells hx hy hf vx vy hp hl).same (F313_tells hx hy hf vx vy hp hl);have e0:((([f]:List T3s).length:Nat):Int)=1:=rfl;have hB:F270_1_B x y [f] 0 ()=some (if b=true then .inl ()else .inr (.inr 2)):=by
  unfold F270_1_B;rw[show getI [f] 0=some f from rfl,ob,d1,ob];cases b <;> rfl
 have h306:F306 f x y=some (!b):=by unfold F306; rw[d2,ob]
 rw[e0,loop1 (D:=F270_1_D x y [f]) (fun i=> rfl) hB,F276_one (g:=fun z=> F306 z x y) h306,ob,ob];cases b with
 |true=> exact⟨0,rfl,rfl,fun _=>(d3.1 rfl).fam hx hy hf vx vy hp hl⟩
 |false=> exact⟨2,rfl,rfl,fun q=> by cases q⟩
def ChainP(x y:GComplex)(f:T3s):Prop:=∀n,1≤n→n < x.Dims.length→∀i,i < dc x n→lin x.Prime (dc y (n - 1)) (rowAt (x.Maps.getD (n - 1) []) i) (f.getD (n - 1) [])=lin x.Prime (dc y (n - 1)) (rowAt (f.getD n []) i) (y.Maps.getD (n - 1) [])
theorem df_unitC{x:GComplex}(hx:SmallC x)(h:ValidC x){n:Nat}(hn:n+1 < x.Dims.length){i:Nat}(hi:i < dc x (n+1)):dfF x (n+1) (unitv (dc x (n+1)) i)=rowAt (x.Maps.getD n []) i:=by
 have hp1:1 < x.Prime:=by have:=h.p.range; omega
 have T:=maps_tab h hn;have hd:=dc_le h (n+1);have hd0:=dc_le h n;have hu:=unitv_ok hp1 hi;have H:=lin_okof h.p T.len T.rows (by omega) (show dc x n≤1000 by omega) hu;unfold dfF;rw[if_neg (by omega),Nat.add_sub_cancel];refine(lin_vec H).ext (row_ok T hi) fun j hj=>(lin_at H hj).trans ?_;rw[hu.len,show dot (nth (unitv (dc x (n+1)) i)) (x.Maps.getD n []) (dc x (n+1)) j=nth (rowAt (x.Maps.getD n []) i) j by
  rw[←dot_unit (m:=x.Maps.getD n []) (j:=j) hi];exact sumI_congr fun k _=> by simp only; rw[nth_unit hi]]
 exact .refl _ _
theorem Fam.step{x y:GComplex}{f:T3s}(F:Fam x y f){n:Nat}(hn:n+1 < x.Dims.length){i:Nat}(hi:i < dc x (n+1)):VecOK x.Prime (dc x n) (rowAt (x.Maps.getD n []) i)∧VecOK x.Prime (dc y (n+1)) (rowAt (f.getD (n+1) []) i)∧F80 x.Prime (f.getD n []) (rowAt (x.Maps.getD n []) i) (dc y n:Int)=some (lin x.Prime (dc y n) (rowAt (x.Maps.getD n []) i) (f.getD n []))∧F119 x.Prime (dc y n:Int) (rowAt (x.Maps.getD n []) i) (f.getD n [])=some (lin x.Prime (dc y n) (rowAt (x.Maps.getD n []) i) (f.getD n []))∧VecOK x.Prime (dc y n) (lin x.Prime (dc y n) (rowAt (x.Maps.getD n []) i) (f.getD n []))∧
  F273 y ((n+1:Nat):Int) (rowAt (f.getD (n+1) []) i)=some (lin x.Prime (dc y n) (rowAt (f.getD (n+1) []) i) (y.Maps.getD n []))∧F91 y ((n+1:Nat):Int) (rowAt (f.getD (n+1) []) i)=some (lin x.Prime (dc y n) (rowAt (f.getD (n+1) []) i) (y.Maps.getD n []))∧(lin x.Prime (dc y n) (rowAt (f.getD (n+1) []) i) (y.Maps.getD n [])).length≤8:=by
 have hd:=dc_le F.vx n;have hdy:=dc_le F.vy n;have hl:=F.l;have v1:=row_ok (maps_tab F.vx hn) hi;have v2:=row_ok (F.t (n+1) hn) hi;obtain⟨a1,a2,a3⟩:=linT F.vx.p (F.t n (by omega)) (by omega) (by omega) v1;obtain⟨b1,b2,b3,b4⟩:=df_eq F.sy F.vy (n:=n+1) (by omega) (v:=rowAt (f.getD (n+1) []) i) (by rw[F.pp]; exact v2);have e:dfF y (n+1) (rowAt (f.getD (n+1) []) i)=lin x.Prime (dc y n) (rowAt (f.getD (n+1) []) i) (y.Maps.getD n []):=by
  unfold dfF;rw[if_neg (by omega),Nat.add_sub_cancel,F.pp]
 rw[e]at b1 b2 b4;exact⟨v1,v2,a1,a2,a3,b1,b2,b4⟩
theorem F271_tells{x y:GComplex}{f:T3s}(F:Fam x y f):Tells (F271 x y f) (ChainP x y f):=by
 have hdl:=F.vx.dl;have hp1:1 < x.Prime:=by have:=F.vx.p.range; omega
 unfold F271 ChainP;have hl:=F.l;have hfl:=F.fl;obtain⟨b,h1,h2⟩:=all_for1 (B:=F271_1_B x y f) (D:=F271_1_D x y f) (fun n=>∀i,i < dc x n→lin x.Prime (dc y (n - 1)) (rowAt (x.Maps.getD (n - 1) []) i) (f.getD (n - 1) [])=lin x.Prime (dc y (n - 1)) (rowAt (f.getD n []) i) (y.Maps.getD (n - 1) [])) (show 1≤x.Dims.length by omega) (by omega) (fun n hn1 hn=> by
  obtain⟨n,rfl⟩:∃m,n=m+1:=⟨n - 1,by omega⟩;have hd:=dc_le F.vx (n+1);rw[Nat.add_sub_cancel];unfold F271_1_B;obtain⟨t,t1,t2⟩:=all_W (n:=dc x (n+1)) (S:=F271_2_S x y f ((n+1:Nat):Int)) (fun i=> lin x.Prime (dc y n) (rowAt (x.Maps.getD n []) i) (f.getD n [])=lin x.Prime (dc y n) (rowAt (f.getD (n+1) []) i) (y.Maps.getD n [])) (fun i hi=> by
   obtain⟨v1,v2,a1,a2,a3,b1,b2,b3⟩:=F.step hn hi;have hu:=unitv_ok hp1 hi;have ed:=df_unitC F.sx F.vx hn hi;obtain⟨d1, -, -, -⟩:=df_eq F.sx F.vx hn hu;rw[ed]at d1;have hT:=F.t (n+1) hn;have hTl:=hT.len;unfold F271_2_S;rw[getI_getD hn 0,ob,dc_at F.vx hn,if_pos (by omega),F272_eq hi (by omega),ob,chk_ok (by omega) (by omega),ob,d1,ob];have e304:F304 x y f (((n+1:Nat):Int) - 1) 0 (rowAt (x.Maps.getD n []) i)=some (lin x.Prime (dc y n) (rowAt (x.Maps.getD n []) i) (f.getD n [])):=by
    unfold F304;rw[show((n+1:Nat):Int) - 1=(n:Int) by omega,getI_getD (show n < f.length by omega) [],ob,chk_ok (by omega) (by omega),ob,show(n:Int)+0=(n:Int) by omega,F99_dc F.sy F.vy (by omega),ob,a1,ob]
   rw[e304,ob,getI_getD (show n+1 < f.length by omega) [],ob,getI_getD (show i < (f.getD (n+1) []).length by omega) [],ob]
   change WTells ((F273 y ((n+1:Nat):Int) (rowAt (f.getD (n+1) []) i)).bind _) _ _
   rw[b1,ob];refine WTells.iff ((F287_tells (by rw[a3.len]; have:=dc_le F.vy n; omega)).then_W fun _=>?_) ⟨fun q=> q.1,fun q=>⟨q,trivial⟩⟩;rw[chk_ok (by omega) (by omega),ob];exact .yes) (by
   unfold F271_2_S;rw[getI_getD hn 0,ob,dc_at F.vx hn,if_neg (by omega)])
  rw[t1,ob];cases t with
  |true=> exact⟨true,rfl,by simp only[true_iff]; exact t2.1 rfl⟩
  |false=> exact⟨false,rfl,by simp only[Bool.false_eq_true,false_iff]; exact fun q=> by have:=t2.2 q; cases this⟩) fun i=> rfl
 rw[h1,ob];cases b with
 |true=> exact .of_true rfl (h2.1 rfl)
 |false=> exact .of_false rfl fun k=> by have:=h2.2 k; cases this
theorem F308_tells{x y:GComplex}{f:T3s}(F:Fam x y f):Tells (F308 x y f) (ChainP x y f):=by
 have hdl:=F.vx.dl;have hxd:=F.sx.d;unfold F308 ChainP;have hl:=F.l;have hfl:=F.fl;have hml:=F.vx.ml;obtain⟨b,h1,h2⟩:=all_W1 (n:=x.Dims.length) (S:=F308_1_S x y f) (fun n=>∀i,i < dc x n→lin x.Prime (dc y (n - 1)) (rowAt (x.Maps.getD (n - 1) []) i) (f.getD (n - 1) [])=lin x.Prime (dc y (n - 1)) (rowAt (f.getD n []) i) (y.Maps.getD (n - 1) [])) (show 1≤x.Dims.length by omega) (fun n hn1 hn=> by
  obtain⟨n,rfl⟩:∃m,n=m+1:=⟨n - 1,by omega⟩;have hd:=dc_le F.vx (n+1);have hT:=F.t (n+1) hn;have hTl:=hT.len;have hM:=maps_tab F.vx hn;have hMl:=hM.len;rw[Nat.add_sub_cancel];unfold F308_1_S;rw[F86_eq hxd,ob,if_pos (by omega),getI_getD (show n+1 < f.length by omega) [],ob];obtain⟨t,t1,t2⟩:=all_for (n:=(f.getD (n+1) []).length) (B:=F308_2_B x y f ((n+1:Nat):Int) (f.getD (n+1) [])) (D:=F308_2_D x y f ((n+1:Nat):Int) (f.getD (n+1) [])) (fun i=> lin x.Prime (dc y n) (rowAt (x.Maps.getD n []) i) (f.getD n [])=lin x.Prime (dc y n) (rowAt (f.getD (n+1) []) i) (y.Maps.getD n [])) (by omega) (fun i hi=> by
   obtain⟨v1,v2,a1,a2,a3,b1,b2,b3⟩:=F.step hn (i:=i) (by omega);unfold F308_2_B;rw[getI_getD hi [],ob,chk_ok (by omega) (by omega),ob,show((n+1:Nat):Int) - 1=(n:Int) by omega,getI_getD (show n < x.Maps.length by omega) [],ob,getI_getD (show i < (x.Maps.getD n []).length by omega) [],ob];have e309:F309 x y f 0 (n:Int) (rowAt (x.Maps.getD n []) i)=some (lin x.Prime (dc y n) (rowAt (x.Maps.getD n []) i) (f.getD n [])):=by
    unfold F309;rw[F86_eq hxd,ob,F56_eq,ob,if_pos (by simp; omega),chk_ok (by omega) (by omega),ob,show(n:Int)+0=(n:Int) by omega,F102_dc F.sy F.vy (by omega),ob,getI_getD (show n < f.length by omega) [],ob,a2,ob]
   change LTells ((F309 x y f 0 (n:Int) (rowAt (x.Maps.getD n []) i)).bind _) _
   rw[e309,ob]
   change LTells ((F91 y ((n+1:Nat):Int) (rowAt (f.getD (n+1) []) i)).bind _) _
   rw[b2,ob];exact LTells.iff ((F165_tells (by rw[a3.len]; have:=dc_le F.vy n; omega)).then_L fun _=> .yes) ⟨fun q=> q.1,fun q=>⟨q,trivial⟩⟩) fun i=> rfl
  rw[t1,ob];cases t with
  |true=>
   simp only[if_true];rw[chk_ok (by omega) (by omega),ob];exact⟨true,rfl,by simp only[true_iff]; exact fun i hi=> t2.1 rfl i (by omega)⟩
  |false=> exact⟨false,rfl,by simp only[Bool.false_eq_true,false_iff]; exact fun q=> by have:=t2.2 fun i hi=> q i (by omega); cases this⟩) (by
  unfold F308_1_S;rw[F86_eq hxd,ob,if_neg (by omega)])
 rw[h1,ob];cases b with
 |true=> exact .of_true rfl (h2.1 rfl)
 |false=> exact .of_false rfl fun k=> by have:=h2.2 k; cases this
theorem F102_neg{x:GComplex}(hx:SmallC x)(h:ValidC x){n:Int}(hn:n < 0):F102 x n=some 0:=by
 have hd:=hx.d;unfold F102;rw[F86_eq hx.d,ob,F56_eq,ob,if_neg (by simp; omega)]
theorem F99_neg{x:GComplex}(hx:SmallC x)(h:ValidC x){n:Int}(hn:n < 0)(hb: -100≤n):F99 x n=some 0:=by
 have hd:=hx.d;unfold F99;rw[chk_ok (by omega) (by omega),ob,F54_eq,ob,if_neg (by simp; omega)]
theorem F102_xd{x:GComplex}(hx:SmallC x)(h:ValidC x){n:Nat}(hn:n≤x.Dims.length):F102 x ((n:Int) - 1)=some (xd x n:Int):=by
 unfold xd;by_cases c:n=0
 ·subst c; rw[if_pos rfl]; exact F102_neg hx h (by omega)
 ·rw[if_neg c,show(n:Int) - 1=((n - 1:Nat):Int) by omega]; exact F102_dc hx h (by omega)
theorem F99_xd{x:GComplex}(hx:SmallC x)(h:ValidC x){n:Nat}(hn:n≤x.Dims.length):F99 x ((n:Int) - 1)=some (xd x n:Int):=by
 unfold xd;by_cases c:n=0
 ·subst c; rw[if_pos rfl]; exact F99_neg hx h (by omega) (by omega)
 ·rw[if_neg c,show(n:Int) - 1=((n - 1:Nat):Int) by omega]; exact F99_dc hx h (by omega)
theorem xd_le{x:GComplex}(h:ValidC x)(n:Nat):xd x n≤8:=by unfold xd; split; omega; exact dc_le h _
theorem F245_eq{x y:GComplex}{f:T3s}(F:Fam x y f):F245 x y f=some ⟨x.Prime,coneD x y,coneT x y f⟩:=by
 have hdl:=F.vx.dl;have hl:=F.l;have hr:=F.vx.p.range;unfold F245;have e1:forR 0 ((x.Dims.length:Int)+1) (F245_1_B x y) F245_1_D []=some (coneD x y):=by
  rw[show(x.Dims.length:Int)+1=((x.Dims.length+1:Nat):Int) by omega];have e:(coneD x y)=coll (x.Dims.length+1) fun n=>[((dc y n+xd x n:Nat):Int)]:=by
   unfold coneD;have key:∀m,(List.range m).map (fun n=>((dc y n+xd x n:Nat):Int))=coll m fun n=>[((dc y n+xd x n:Nat):Int)]:=fun m=> by
    induction m with
    |zero=> rfl
    |succ m ih=> rw[coll_succ,List.range_succ,List.map_append,ih]; rfl
   exact key _
  rw[e];exact forR_coll (n:=x.Dims.length+1) _ (by omega) (fun n=> by simp) (fun n s hn hs=> by
   have:=dc_le F.vy n;have:=xd_le F.vx n;unfold F245_1_B;rw[F102_dc F.sy F.vy (by omega),ob,chk_ok (by omega) (by omega),ob,F102_xd F.sx F.vx (by omega),ob,chk_ok (by omega) (by omega),ob,app_ok (by simp; omega) (by simp; omega),ob];simp) fun i s=> rfl
 have hD:=coneD_rng F.vx F.vy;obtain⟨r1,r2,a1,a2,a3⟩:=cone_fold F (g1:=fun n r pl v s=> F75 x.Prime n r pl v s) (g2:=fun n r pl v s=> F277 x.Prime y n r pl v s) (g3:=fun n r pl v s=> F245_3 x.Prime y n r pl v s) (fun k i j s hin=> rfl) (fun k i j s hin=> by
  obtain⟨b1,b2,b3⟩:=(inT_maps F.vx).1 hin;have hv:=(MapsOK.self F.vx).rng k i j hin;have:=dc_le F.vy (k+1);have:=dc_le F.vy (k+2);have hdx:=dc_le F.vx (k+1);have hdx0:=dc_le F.vx k;unfold F277;rw[chk_ok (by omega) (by omega),ob,show(k:Int)+1+1=((k+2:Nat):Int) by omega,F102_dc F.sy F.vy (by omega),ob,chk_ok (by omega) (by omega),ob,show(k:Int)+1=((k+1:Nat):Int) by omega,F102_dc F.sy F.vy (by omega),ob,chk_ok (by omega) (by omega),ob,chk_ok (by omega) (by omega),ob];rw[show((dc y (k+2):Nat):Int)+(i:Int)=((dc y (k+2)+i:Nat):Int) by omega,show((dc y (k+1):Nat):Int)+(j:Int)=((dc y (k+1)+j:Nat):Int) by omega];rw[Int.zero_sub,show((k+2:Nat):Int)=((k+1:Nat):Int)+1 by omega]) (fun k i j s hin=> by
  obtain⟨b1,b2,b3⟩:=F.inT.1 hin;have:=dc_le F.vy (k+1);have hdx0:=dc_le F.vx k;unfold F245_3;rw[show(k:Int)+1=((k+1:Nat):Int) by omega,F102_dc F.sy F.vy (by omega),ob,chk_ok (by omega) (by omega),ob]
  congr 1)
 have hbig:F74 x.Prime (coneD x y)=some ⟨x.Prime,coneD x y,zM (coneD x y)⟩:=F74_big (by rw[coneD_len]; omega) (by rw[coneD_len]; omega) fun d hd=> by have:=hD d hd; omega
 rw[chk_ok (by omega) (by omega),ob,e1,ob,hbig,ob,a1,ob,a2,ob,a3,ob]
theorem neg_loop{x y:GComplex}{f:T3s}{p:Int}{w:Nat}(hp:2≤p∧p≤7){v:List Int}(hv:VecOK p w v)(hw:w≤1000)(hpx:x.Prime=p)(o4:T3s)(q v8 x12:Int)(l14:List Int)(o7:List (List Int))(v11:Int):loopW (F243_4_S x y f o4 q v8 x12 l14 o7 v11) (v,0)=some (negv p v):=by
 have hvl:=hv.len;rw[idx_loopW (fun _ a=>(-a)% p) (fun i hi s h1 h2=> by
  have e:s[i]? =some v[i]:=by rw[h2 i,if_neg (by omega)]; simp[hi]
  obtain⟨hi',e'⟩:=List.getElem?_eq_some_iff.1 e;have hr:=hv.rng i (by omega);rw[nth_lt hi]at hr;unfold F243_4_S;simp only;rw[if_pos (by omega),getI_nat hi',ob,e',chk_ok (by omega) (by omega),ob,hpx,F127_eq hp,ob,setI_nat hi',ob,chk_ok (by omega) (by omega),ob,Int.zero_sub]) (fun s hs=> by
  unfold F243_4_S;simp only;rw[if_neg (by omega)])]
 congr 1
 unfold negv;exact List.ext_getElem (by simp) fun i h1 h2=>(by simp)
theorem appZ_ok{l:List Int}{n:Nat}(h1:l.length≤1000)(h2:n≤1000):appZ 8 l (n:Int) 0=some (l++zv n):=by
 unfold appZ;rw[if_pos (by omega),Int.toNat_natCast,app_ok (by simp; omega) (by simp; omega)];rfl
theorem F243_2_eq{x y:GComplex}{f:T3s}(F:Fam x y f){k:Nat}(hk:k < x.Dims.length)(o4:T3s)(q x12:Int)(l14:List Int):loopW (F243_2_S x y f o4 q ((k+1:Nat):Int) x12 l14) ([],0)=some ((List.range (dc y (k+1))).map fun i=> rowAt (y.Maps.getD k []) i++zv (xd x k)):=by
 have hl:=F.l;have hdl:=F.vx.dl;have hp1:1 < y.Prime:=by have:=F.vy.p.range; omega
 have hdy:=dc_le F.vy (k+1);have hxd:=xd_le F.vx k;have e:((List.range (dc y (k+1))).map fun i=> rowAt (y.Maps.getD k []) i++zv (xd x k))=coll (dc y (k+1)) fun i=>[rowAt (y.Maps.getD k []) i++zv (xd x k)]:=by
  have key:∀m,(List.range m).map (fun i=> rowAt (y.Maps.getD k []) i++zv (xd x k))=coll m fun i=>[rowAt (y.Maps.getD k []) i++zv (xd x k)]:=fun m=> by
   induction m with
   |zero=> rfl
   |succ m ih=> rw[coll_succ,List.range_succ,List.map_append,ih]; rfl
  exact key _
 rw[e];refine loopW_coll (n:=dc y (k+1)) _ (fun i=> by simp) (fun i s hi hs=>?_) fun s=>?_
 ·have hk1:k+1 < y.Dims.length:=Nat.lt_of_not_le fun c=> by rw[dc_out c]at hi; omega
  have ed:=df_unitC F.sy F.vy hk1 hi;obtain⟨d1, -, -, -⟩:=df_eq F.sy F.vy hk1 (unitv_ok hp1 hi);rw[ed]at d1;have hrow:=row_ok (maps_tab F.vy hk1) hi;have hd0:=dc_le F.vy k;unfold F243_2_S;simp only;rw[F99_dc F.sy F.vy (by omega),ob,if_pos (by omega),F272_eq hi (by omega),ob,d1,ob,chk_ok (by omega) (by omega),ob,show((k+1:Nat):Int) - 2=(k:Int) - 1 by omega,F99_xd F.sx F.vx (by omega),ob,appZ_ok (by rw[hrow.len]; omega) (by omega),ob,app_ok (by simp; omega) (by simp; omega),ob,chk_ok (by omega) (by omega),ob]
 ·unfold F243_2_S
  simp only;rw[F99_dc F.sy F.vy (by omega),ob,if_neg (by omega)]
theorem F243_3_eq{x y:GComplex}{f:T3s}(F:Fam x y f){k:Nat}(hk:k < x.Dims.length)(o4:T3s)(q x12:Int)(l14:List Int){s0:List (List Int)}(hs0:s0.length≤8):loopW (F243_3_S x y f o4 q ((k+1:Nat):Int) x12 l14) (s0,0)=some (s0++(List.range (dc x k)).map fun i=> rowAt (f.getD k []) i++(if k=0 then []else negv x.Prime (rowAt (x.Maps.getD (k - 1) []) i))):=by
 have hl:=F.l;have hdl:=F.vx.dl;have hfl:=F.fl;have hr:=F.vx.p.range;have hp1:1 < x.Prime:=by omega
 have hdx:=dc_le F.vx k;have hdy:=dc_le F.vy k;obtain⟨t,g1,g2⟩:=loopW_inv (S:=F243_3_S x y f o4 q ((k+1:Nat):Int) x12 l14) (fun s=>((dc x k:Int) - s.2).toNat) (fun s=>∃i:Nat,i≤dc x k∧s=(s0++(List.range i).map (fun i=> rowAt (f.getD k []) i++(if k=0 then []else negv x.Prime (rowAt (x.Maps.getD (k - 1) []) i))),(i:Int))) (fun t=> t=s0++(List.range (dc x k)).map fun i=> rowAt (f.getD k []) i++(if k=0 then []else negv x.Prime (rowAt (x.Maps.getD (k - 1) []) i))) (s:=(s0,0)) ⟨0,Nat.zero_le _,by simp⟩ (by
  rintro _ ⟨i,hi,rfl⟩;unfold F243_3_S;simp only;rw[chk_ok (by omega) (by omega),ob,show((k+1:Nat):Int) - 1=(k:Int) by omega,F99_dc F.sx F.vx (by omega),ob];by_cases hlt:i < dc x k
  ·left
   have hT:=F.t k hk;have hTl:=hT.len;have hrow:=row_ok hT hlt;have hrl:=hrow.len;have hu:=unitv_ok hp1 hlt;obtain⟨d1, -,d3,d4⟩:=df_eq F.sx F.vx hk hu;have hneg:∃z,loopW (F243_4_S x y f o4 q ((k+1:Nat):Int) x12 l14 (s0++(List.range i).map (fun i=> rowAt (f.getD k []) i++(if k=0 then []else negv x.Prime (rowAt (x.Maps.getD (k - 1) []) i)))) (i:Int)) (dfF x k (unitv (dc x k) i),0)=some z∧z=(if k=0 then []else negv x.Prime (rowAt (x.Maps.getD (k - 1) []) i))∧z.length≤8:=by
    by_cases c:k=0
    ·subst c
     have e:dfF x 0 (unitv (dc x 0) i)=[]:=by unfold dfF; rw[if_pos rfl]
     rw[e,neg_loop hr (w:=0) (v:=[]) ⟨rfl,fun j hj=> absurd hj (Nat.not_lt_zero _)⟩ (by omega) rfl,if_pos rfl];exact⟨_,rfl,rfl,by simp[negv]⟩
    ·obtain⟨m,rfl⟩:∃m,k=m+1:=⟨k - 1,by omega⟩
     have hv:=row_ok (maps_tab F.vx hk) hlt;have hdm:=dc_le F.vx m;rw[df_unitC F.sx F.vx hk hlt,neg_loop hr hv (by omega) rfl,if_neg c,Nat.add_sub_cancel];exact⟨_,rfl,rfl,by rw[negv,List.length_map,hv.len]; omega⟩
   obtain⟨z,z1,z2,z3⟩:=hneg;rw[if_pos (by omega),F272_eq hlt (by omega),ob,d1,ob,z1,ob,getI_getD (show k < f.length by omega) [],ob,getI_getD (show i < (f.getD k []).length by omega) [],ob]
   change∃s',((F94 (rowAt (f.getD k []) i)).bind _=some (Sum.inl s'))∧_
   rw[F94_eq (by omega),ob,app_ok (by omega) (by omega),ob,app_ok (by simp; omega) (by simp; omega),ob,chk_ok (by omega) (by omega),ob];refine⟨_,rfl,⟨i+1,by omega,?_⟩,by simp only; omega⟩;rw[List.range_succ,List.map_append,z2,List.append_assoc]; simp
  ·right
   have:i=dc x k:=by omega
   subst this;rw[if_neg (by omega)];exact⟨_,rfl,rfl⟩)
 rw[g1,g2]
theorem F243_eq{x y:GComplex}{f:T3s}(F:Fam x y f):F243 x y f=some ⟨x.Prime,coneD x y,coneT x y f⟩:=by
 have hl:=F.l;have hdl:=F.vx.dl;unfold F243;obtain⟨t,g1,g2⟩:=loopW_inv (S:=F243_1_S x y f) (fun s=>((x.Dims.length:Int)+1 - s.2.2.2).toNat) (fun s=>∃n:Nat,n≤x.Dims.length+1∧s=((coneD x y).take n,(coneT x y f).take (n - 1),x.Prime,(n:Int))) (fun t=> t=(coneD x y,coneT x y f,x.Prime)) (s:=([],[],x.Prime,0)) ⟨0,by omega,by simp⟩ (by
  rintro _ ⟨n,hn,rfl⟩;have hcd:=coneD_len (x:=x) (y:=y);have hct:(coneT x y f).length=x.Dims.length:=by simp[coneT]
  unfold F243_1_S;simp only;by_cases hlt:n≤x.Dims.length
  ·left
   have:=dc_le F.vy n;have:=xd_le F.vx n;have hn2:n < (coneD x y).length:=by omega
   have ed:(coneD x y).take (n+1)=(coneD x y).take n++[((dc y n:Int)+(xd x n:Int))]:=by
    rw[←List.take_append_getElem hn2]
    congr 2
    have:=coneD_at (x:=x) (y:=y) hlt;rw[List.getD_eq_getElem?_getD,List.getElem?_eq_getElem hn2,Option.getD_some]at this;rw[this]; omega
   rw[if_pos (by omega),F99_dc F.sy F.vy (by omega),ob,chk_ok (by omega) (by omega),ob,F99_xd F.sx F.vx hlt,ob,chk_ok (by omega) (by omega),ob,app_ok (by simp; omega) (by simp; omega),ob,←ed];by_cases c0:n=0
   ·subst c0
    rw[if_pos (show((0:Nat):Int)=0 from rfl),chk_ok (by omega) (by omega),ob];exact⟨_,rfl,⟨1,by omega,by simp⟩,by simp only; omega⟩
   ·obtain⟨k,rfl⟩:∃k,n=k+1:=⟨n - 1,by omega⟩
    have hdy:=dc_le F.vy (k+1);have hdx:=dc_le F.vx k;rw[if_neg (by omega),F243_2_eq F (by omega),ob,F243_3_eq F (by omega) _ _ _ _ (by simpa using hdy),ob,app_ok (by simp; omega) (by simp; omega),ob,chk_ok (by omega) (by omega),ob];refine⟨_,rfl,⟨k+2,by omega,?_⟩,by simp only; omega⟩;have hk2:k < (coneT x y f).length:=by omega
    have et:(coneT x y f).take (k+1)=(coneT x y f).take k++[coneR x y f k]:=by
     rw[←List.take_append_getElem hk2]
     congr 2
     have:=coneT_at (x:=x) (y:=y) (f:=f) (k:=k) (by omega);rw[List.getD_eq_getElem?_getD,List.getElem?_eq_getElem hk2,Option.getD_some]at this;exact this
    refine Prod.ext rfl (Prod.ext ?_ (Prod.ext rfl (by simp only; omega)));show(coneT x y f).take (k+1 - 1)++[coneR x y f k]=(coneT x y f).take (k+2 - 1);rw[Nat.add_sub_cancel,show k+2 - 1=k+1 by omega,et]
  ·right
   have:n=x.Dims.length+1:=by omega
   subst this;rw[if_neg (by omega)];refine⟨_,rfl,?_⟩;rw[List.take_of_length_le (by omega),Nat.add_sub_cancel,List.take_of_length_le (by omega)])
 rw[g1,g2];rfl
theorem cone_small{x y:GComplex}{f:T3s}(F:Fam x y f):SmallC (⟨x.Prime,coneD x y,coneT x y f⟩:GComplex):=by
 have hdl:=F.vx.dl;have hl:(coneT x y f).length=x.Dims.length:=by simp[coneT]
 refine⟨by simp only[coneD_len]; omega,by simp only; omega,fun m hm=>?_⟩;obtain⟨k,hk,rfl⟩:=List.getElem_of_mem hm;have e:(coneT x y f)[k]=coneR x y f k:=by simp[coneT]
 have hk':k < x.Dims.length:=by simpa[coneT]using hk
 simp only;rw[e];have a:=dc_le F.vy (k+1);have b:=dc_le F.vx k;have c:=dc_le F.vy k;have d:=xd_le F.vx k;exact⟨by rw[coneR_len]; omega,fun r hr=> by rw[(F.row hk' r hr).len]; omega⟩
theorem VecOK.row{p:Int}{w:Nat}{v:List Int}(h:VecOK p w v):RowOK p (w:Int) v:=⟨by rw[h.len],fun y hy=> by
 obtain⟨j,hj,rfl⟩:=List.getElem_of_mem hy;have:=h.rng j (by rw[←h.len]; exact hj)
 rwa[nth_lt hj]at this⟩
theorem cone_wide{x y:GComplex}{f:T3s}(F:Fam x y f):WideC (⟨x.Prime,coneD x y,coneT x y f⟩:GComplex):=by
 have hdl:=F.vx.dl;have hcl:(coneT x y f).length=x.Dims.length:=by simp[coneT]
 have hcd:=coneD_len (x:=x) (y:=y);refine⟨F.vx.p,by simp only; omega,by simp only; omega,fun d hd=> by have:=coneD_rng F.vx F.vy d hd; omega,fun k hk=>?_⟩;simp only at hk;have hk':k < x.Dims.length:=by omega
 have e1:xd x (k+1)=dc x k:=by unfold xd; rw[if_neg (by omega),Nat.add_sub_cancel]
 unfold TabAt TableOK;simp only;rw[coneT_at hk',coneR_len,coneD_at (by omega),coneD_at (by omega),e1];exact⟨rfl,fun r hr=>(F.row hk' r hr).row⟩
def SqC(x:GComplex):Prop:=∀k,0 < k→k < x.Maps.length→SqAt x k
theorem app_rows{p:Int}{w:Nat}{A B:List (List Int)}(hA:Rows p w A)(hB:Rows p w B):Rows p w (A++B):=fun r hr=>(List.mem_append.1 hr).elim (hA r) (hB r)
theorem hole_count{p:Int}{w:Nat}(hp:IsP p){B K E:List (List Int)}(hB:Red p w B)(hK:Red p w K)(hBK:∀b∈B,Sp p w K b)(hE:EchOf p w (K.map (rest p B)) E):K.length=B.length+E.length:=by
 have hp1:1 < p:=by have:=hp.range; omega
 have hp0:0 < p:=by omega
 have hsame:EchOf p w (B++K) K:=⟨hK,fun v=>⟨fun h=> h.mono fun r hr=> List.mem_append_right _ hr,fun h=> Sp.into hp0 hK.ok (fun r hr=>(List.mem_append.1 hr).elim (hBK r) fun q=> .mem hp0 hK.ok q) h⟩⟩;have L:=rest_lin hp0 hB.ok fun r hr=>(hB.one r hr).1;refine rank_pair hp1 hp.inv hB.ok (EchOf.self hB) (Z:=K) (f:=id) (g:=rest p B) (fun z hz=> hK.ok z hz) (fun z hz=> rest_ok hp0 hB.ok (hK.ok z hz)) (fun k hk=>?_) (by rw[List.map_id]; exact hsame) hE;have hT:Rows p w (K.take k):=fun r hr=> hK.ok r (List.mem_of_mem_take hr);have hv:=hK.ok _ (List.getElem_mem hk);have hBT:=app_rows hB.ok hT;rw[List.map_id];show Sp p w (B++K.take k) K[k]↔_;constructor
 ·intro h
  have h':=L.sp hp0 hBT h;refine Sp.into hp0 (L.rows hT) (fun r hr=>?_) h';obtain⟨b,hb,rfl⟩:=List.mem_map.1 hr;rcases List.mem_append.1 hb with q|q
  ·rw[(rest_zero hp0 hB (hB.ok b q)).2 (.mem hp0 hB.ok q)]; exact .zero
  ·exact .mem hp0 (L.rows hT) (List.mem_map.2 ⟨b,q,rfl⟩)
 ·intro h
  obtain⟨u,hu,e⟩:=L.lift hp0 hT h;have hBs:∀r∈B,Sp p w (B++K.take k) r:=fun r hr=> .mem hp0 hBT (List.mem_append_left _ hr);have hu':Sp p w (B++K.take k) u:=hu.mono fun r hr=> List.mem_append_right _ hr;refine(rest_iff hp0 hBT hB.ok hBs hv).1 ?_;rw[←e];exact(rest_iff hp0 hBT hB.ok hBs (hu.ok hp0 hT)).2 hu'
theorem cyc_wide{x:GComplex}(hx:SmallC x)(h:WideC x){n:Nat}(hn:n < x.Dims.length):∃K,F98 x (n:Int)=some K∧F100 x (n:Int)=some K∧Red x.Prime (dc x n) K∧
  ∀v,VecOK x.Prime (dc x n) v→(∀k,n=k+1→∀j,j < dc x k→Cg x.Prime (dot (nth v) (x.Maps.getD k []) (x.Maps.getD k []).length j) 0)→Sp x.Prime (dc x n) K v:=by
 have hp1:1 < x.Prime:=by have:=h.p.range; omega
 have hd:=h.dim hn;have hml:=h.ml;have hxd:=hx.d;unfold F98 F100;rw[F99_at hx.d hn,ob];rcases Nat.eq_zero_or_pos n with h0|h0
 ·subst h0
  have hdn:x.Dims.getD 0 0=(dc x 0:Int):=dc_atw h hn;rw[if_pos (by omega),show((0:Nat):Int)=0 from rfl,F76_0 hx.d hn hdn (by omega),ob,hdn,kernel_none h.p (by omega),ob];have h102:=F102_at hx.d hn;rw[hdn]at h102;rw[show(0:Int)=((0:Nat):Int) from rfl,h102,ob,F124_eq (by omega),ob];exact⟨_,rfl,rfl,units_red hp1 _,fun v hv _=> units_sp hp1 hv⟩
 ·obtain⟨k,rfl⟩:∃k,n=k+1:=⟨n - 1,by omega⟩
  have hk:k < x.Maps.length:=by omega
  have ht:=h.tab k hk;have hdk:=h.dim (show k < x.Dims.length by omega);have e1:getI x.Maps (k:Int)=some (x.Maps.getD k []):=getI_getD hk [];have hr:Rows x.Prime (dc x k) (x.Maps.getD k []):=fun r hr=>(ht.2 r hr).vec;have h76:F76 x ((k+1:Nat):Int)=some (x.Maps.getD k []):=by
   unfold F76;rw[chk_ok (by omega) (by omega),ob,F54_eq,ob,if_pos (by simp; omega),chk_ok (by omega) (by omega),ob,show((k+1:Nat):Int) - 1=(k:Int) by omega,e1,ob]
  have hlen:=ht.1;have hdc:dc x (k+1)=(x.Maps.getD k []).length:=by unfold dc; omega
  have hw:=dc_lew h k;obtain⟨K,k1,k2,k3,k4⟩:=kernel_full h.p hr (by omega) (by omega);rw[h76,ob,←hlen,k1,ob,if_neg (by omega),F86_eq hx.d,ob,if_neg (by omega),chk_ok (by omega) (by omega),ob,show((k+1:Nat):Int) - 1=(k:Int) by omega,e1,ob,k2,ob,hdc];exact⟨_,rfl,rfl,k3,fun v hv q=>(k4 v).2 ⟨hv,q k rfl⟩⟩
theorem bnd_wide{x:GComplex}(hx:SmallC x)(h:WideC x){n:Nat}(hn:n < x.Dims.length):∃B,F251 x (n:Int)=some B∧F186 x (n:Int)=some B∧Red x.Prime (dc x n) B∧∀b∈B,n+1 < x.Dims.length∧Sp x.Prime (dc x n) (x.Maps.getD n []) b:=by
 have hp0:0 < x.Prime:=by have:=h.p.range; omega
 have hd:=hx.d;have hml:=h.ml;have hdl:=h.dl;obtain⟨B0,c1,c2,c3⟩:=bounds_wide hx h hn;by_cases c:n+1 < x.Dims.length
 ·have ht:=h.tab n (by omega)
  have hr:Rows x.Prime (dc x n) (x.Maps.getD n []):=fun r hr=>(ht.2 r hr).vec;have hl:=ht.1;have hd1:=h.dim c;have:=dc_lew h n;obtain⟨B,b1,b2,b3⟩:=reduce_same h.p hr (by omega) (by omega);have e:F251 x (n:Int)=some B:=by
   unfold F251;rw[chk_ok (by omega) (by omega),ob,show(n:Int)+1=((n+1:Nat):Int) by omega,F76_eq hx.d c (by omega),ob,b1,ob]
  rw[e]at c1;have:=Option.some.inj c1;subst this;exact⟨B,e,c2,c3,fun b hb=>⟨c,(b3.sp b).1 (.mem hp0 c3.ok hb)⟩⟩
 ·have e:F186 x (n:Int)=some []:=by
   unfold F186;rw[if_neg (by omega),F86_eq hx.d,ob];by_cases c0:(x.Maps.length:Int)≤(n:Int)
   ·first|rw[if_pos (by omega)]|skip
   ·omega
  rw[e]at c2;have:=Option.some.inj c2;subst this;exact⟨[],c1,e,c3,fun b hb=> nomatch hb⟩
structure Hol (x:GComplex) (n:Nat) (B E:List (List Int)):Prop where
 bs:F251 x (n:Int)=some B
 bi:F186 x (n:Int)=some B
 es:F358 x (n:Int)=some E
 ei:F189 x (n:Int)=some E
 rb:Red x.Prime (dc x n) B
 re:Red x.Prime (dc x n) E
 hm:hm x n=(E.length:Int)
 s3:F283 x (n:Int)=some (E.length:Int)
 i3:F168 x (n:Int)=some (E.length:Int)
 le:E.length≤100
 w:dc x n≤100
theorem rest_loopC{x:GComplex}{w:Nat}(hp:2≤x.Prime∧x.Prime≤7){K B:List (List Int)}(hB:Red x.Prime w B)(hK:Rows x.Prime w K)(hl:K.length≤1000)(hbl:B.length≤1000)(hw:w≤1000):forR 0 (K.length:Int) (F358_1_B x K B) (F358_1_D x K B) []=some (K.map (rest x.Prime B)):=by
 rw[forR_map (B:=F358_1_B x K B) (D:=F358_1_D x K B) (rest x.Prime B) (by omega) (fun k hk s hs=> by
  have hv:=hK _ (List.getElem_mem hk);have hsl:s.length=k:=by simpa using hs
  unfold F358_1_B;rw[getI_nat hk,ob,F134_eq hp hB hv (by omega) (by omega),ob,app_ok (by simp; omega) (by simp; omega),ob]) (fun i s=> rfl),List.nil_append]
theorem hol_wide{x:GComplex}(hx:SmallC x)(h:WideC x)(hs:SqC x)(n:Nat):∃q:List (List Int)×List (List Int),n < x.Dims.length→Hol x n q.1 q.2:=by
 by_cases hn:n < x.Dims.length
 case neg=> exact⟨([],[]),fun q=> absurd q hn⟩
 have hp:=h.p.range;have hp0:0 < x.Prime:=by omega
 have hd:=dc_lew h n;have hml:=h.ml;obtain⟨K,k1,k2,k3,k4⟩:=cyc_wide hx h hn;obtain⟨B,b1,b2,b3,b4⟩:=bnd_wide hx h hn;have hkl:=red_len k3;have hbl:=red_len b3;obtain⟨E,e1,e2,e3⟩:=F204_eq h.p b3 k3.ok (by omega) (by omega);have hBK:∀b∈B,Sp x.Prime (dc x n) K b:=fun b hb=> by
  obtain⟨hn1,hb'⟩:=b4 b hb;refine Sp.into hp0 k3.ok (fun r hr=>?_) hb';have ht:=h.tab n (by omega);have hrv:VecOK x.Prime (dc x n) r:=(ht.2 r hr).vec;refine k4 r hrv fun k hk j hj=>?_;subst hk;have htk:=h.tab k (by omega);have hr':Rows x.Prime (dc x k) (x.Maps.getD k []):=fun r hr=>(htk.2 r hr).vec;have hlen:=htk.1;have hdc:dc x (k+1)=(x.Maps.getD k []).length:=by unfold dc; omega
  have hdk:=dc_lew h k;have H:LinOK x.Prime (dc x k) r (x.Maps.getD k []):=lin_okof h.p hdc.symm hr' (by omega) (by omega) hrv;have hz:∀y∈lin x.Prime (dc x k) r (x.Maps.getD k []),y=0:=by
   have:=hs (k+1) (by omega) (by omega) r hr;rw[Nat.add_sub_cancel]at this;exact this
  have h1:=lin_at H hj;have hll:=lin_len H;have h2:nth (lin x.Prime (dc x k) r (x.Maps.getD k [])) j=0:=by
   rw[nth_lt (by omega)];exact hz _ (List.getElem_mem (by omega))
  rw[h2,hrv.len,hdc]at h1;exact h1.symm
 have hc:=hole_count h.p b3 k3 hBK e3;have hE:=red_len e3.red;have s3:F283 x (n:Int)=some ((E.length:Nat):Int):=by
  unfold F283;rw[k1,ob,b1,ob,chk_ok (by omega) (by omega),ob,show(K.length:Int) - (B.length:Int)=(E.length:Int) by omega]
 refine⟨(B,E),fun _=>⟨b1,b2,?_,?_,b3,e3.red,by unfold hm; rw[s3]; rfl,s3,?_,Nat.le_trans hE hd,hd⟩⟩
 ·unfold F358
  rw[k1,ob,b1,ob,rest_loopC hp b3 k3.ok (by omega) (by omega) (by omega),ob,e2,ob]
 ·unfold F189
  rw[k2,ob,b2,ob,e1,ob]
 ·unfold F168
  rw[k2,ob,b2,ob,chk_ok (by omega) (by omega),ob,show(K.length:Int) - (B.length:Int)=(E.length:Int) by omega]
theorem sq_dot{x:GComplex}(h:ValidC x){k i j:Nat}(hk:k+2 < x.Dims.length)(hi:i < dc x (k+2))(hj:j < dc x k):Cg x.Prime (dot (nth (rowAt (x.Maps.getD (k+1) []) i)) (x.Maps.getD k []) (dc x (k+1)) j) 0:=by
 have hml:=h.ml;have T2:=maps_tab h (k:=k+1) hk;have T1:=maps_tab h (k:=k) (by omega);have hr:=row_ok T2 hi;have d0:=dc_le h k;have d1:=dc_le h (k+1);have H:LinOK x.Prime (dc x k) (rowAt (x.Maps.getD (k+1) []) i) (x.Maps.getD k []):=lin_okof h.p T1.len T1.rows (by omega) (by omega) hr;have hz:∀y∈lin x.Prime (dc x k) (rowAt (x.Maps.getD (k+1) []) i) (x.Maps.getD k []),y=0:=by
  have:=h.sq (k+1) (by omega) (by omega) _ (row_mem (by rw[T2.len]; exact hi));rw[Nat.add_sub_cancel]at this;exact this
 have h1:=lin_at H hj;have hll:=lin_len H;rw[nth_lt (by omega),hz _ (List.getElem_mem (by omega)),hr.len]at h1;exact h1.symm
theorem dotC{x y:GComplex}{f:T3s}{k:Nat}{u v:List Int}(hu:u.length=dc y (k+1))(hv:v.length=dc x k)(j:Nat):
  dot (nth (u++v)) (coneR x y f k) (dc y (k+1)+dc x k) j=sumI (fun i=> nth u i*nth (rowAt (y.Maps.getD k []) i++zv (xd x k)) j) (dc y (k+1))+sumI (fun i=> nth v i*nth (rowAt (f.getD k []) i++(if k=0 then []else negv x.Prime (rowAt (x.Maps.getD (k - 1) []) i))) j) (dc x k):=by
 unfold dot;rw[sumI_app];have e1:sumI (fun i=> nth (u++v) i*nth (rowAt (coneR x y f k) i) j) (dc y (k+1))=sumI (fun i=> nth u i*nth (rowAt (y.Maps.getD k []) i++zv (xd x k)) j) (dc y (k+1)):=sumI_congr fun i hi=> by
  rw[nth_app,if_pos (by omega),show rowAt (coneR x y f k) i=_ from coneR_hi hi]
 have e2:sumI (fun i=> nth (u++v) (dc y (k+1)+i)*nth (rowAt (coneR x y f k) (dc y (k+1)+i)) j) (dc x k)=sumI (fun i=> nth v i*nth (rowAt (f.getD k []) i++(if k=0 then []else negv x.Prime (rowAt (x.Maps.getD (k - 1) []) i))) j) (dc x k):=sumI_congr fun i hi=> by
  rw[nth_app,if_neg (by omega),show dc y (k+1)+i - u.length=i by omega,show rowAt (coneR x y f k) (dc y (k+1)+i)=_ from coneR_lo hi]
 rw[e1,e2]
theorem cone_sq{x y:GComplex}{f:T3s}(F:Fam x y f)(hc:ChainP x y f):SqC (⟨x.Prime,coneD x y,coneT x y f⟩:GComplex):=by
 intro k0 h0 hk0;obtain⟨k,rfl⟩:∃k,k0=k+1:=⟨k0 - 1,by omega⟩;have hp:=F.vx.p.range;have hp0:0 < x.Prime:=by omega
 have hl:(coneT x y f).length=x.Dims.length:=by simp[coneT]
 have hyl:=F.l;simp only at hk0;have hk:k+1 < x.Dims.length:=by omega
 have dx:=dc_le F.vx;have dy:=dc_le F.vy;have exd:xd x (k+1)=dc x k:=by unfold xd; rw[if_neg (by omega),Nat.add_sub_cancel]
 have hxd:xd x k≤8:=by unfold xd; split; omega; exact dx _
 unfold SqAt;simp only[Nat.add_sub_cancel];rw[coneT_at hk,coneT_at (show k < x.Dims.length by omega),coneD_at (show k≤x.Dims.length by omega),Int.toNat_natCast];intro row hrow z hz;have hT:Rows x.Prime (dc y k+xd x k) (coneR x y f k):=F.row (by omega);have hrv:VecOK x.Prime (dc y (k+1)+xd x (k+1)) row:=F.row hk row hrow;rw[exd]at hrv;have b0:=dx k;have b1:=dy k;have b2:=dy (k+1);have H:LinOK x.Prime (dc y k+xd x k) row (coneR x y f k):=lin_okof F.vx.p (c:=dc y (k+1)+dc x k) coneR_len hT (by omega) (by omega) hrv;have hll:=lin_len H;have V:=lin_vec H;have My:=maps_tab F.vy (k:=k) (by omega);have Mx:=maps_tab F.vx (k:=k) hk
 suffices key:∀j,j < dc y k+xd x k→Cg x.Prime (dot (nth row) (coneR x y f k) (dc y (k+1)+dc x k) j) 0 by
  obtain⟨j,hj,rfl⟩:=List.getElem_of_mem hz;have hj':j < dc y k+xd x k:=by omega
  have h1:=lin_at H hj';rw[hrv.len]at h1;have:=(h1.trans (key j hj')).eq (V.rng j hj').1 (V.rng j hj').2 (Int.le_refl _) hp0
  rwa[nth_lt hj]at this
 clear hz z V hll H;intro j hj;have hrow':=hrow;unfold coneR at hrow';rcases List.mem_append.1 hrow' with q|q
 ·obtain⟨i,hi,rfl⟩:=List.mem_map.1 q
  have hi':=List.mem_range.1 hi;have hN:k+2 < x.Dims.length:=by
   refine Nat.lt_of_not_le fun hge=>?_;have:dc y (k+1+1)=0:=dc_out (by omega);omega
  have hu:=row_ok (maps_tab F.vy (k:=k+1) (by omega)) hi';rw[exd,dotC hu.len (by simp[zv]) j];have e2:sumI (fun i=> nth (zv (dc x k)) i*nth (rowAt (f.getD k []) i++(if k=0 then []else negv x.Prime (rowAt (x.Maps.getD (k - 1) []) i))) j) (dc x k)=0:=sumI_zero fun i _=> by rw[nth_zv]; simp
  rw[e2,Int.add_zero];by_cases c:j < dc y k
  ·have e1:sumI (fun i'=> nth (rowAt (y.Maps.getD (k+1) []) i) i'*nth (rowAt (y.Maps.getD k []) i'++zv (xd x k)) j) (dc y (k+1))=dot (nth (rowAt (y.Maps.getD (k+1) []) i)) (y.Maps.getD k []) (dc y (k+1)) j:=sumI_congr fun i' h'=> by
    rw[nth_app,if_pos (by rw[(row_ok My h').len]; exact c)]
   rw[e1];have:=sq_dot F.vy (k:=k) (by omega) hi' c
   rwa[F.pp]at this
  ·have e1:sumI (fun i'=> nth (rowAt (y.Maps.getD (k+1) []) i) i'*nth (rowAt (y.Maps.getD k []) i'++zv (xd x k)) j) (dc y (k+1))=0:=sumI_zero fun i' h'=> by
    rw[nth_app,if_neg (by rw[(row_ok My h').len]; omega),nth_zv]; simp
   rw[e1]; exact .refl _ _
 ·obtain⟨i,hi,rfl⟩:=List.mem_map.1 q
  have hi':=List.mem_range.1 hi;have hr:=row_ok Mx hi';have hu:=row_ok (F.t (k+1) hk) hi';rw[if_neg (by omega:¬k+1=0),Nat.add_sub_cancel,dotC hu.len (by rw[negv_len]; exact hr.len) j];have hng:∀i',i' < dc x k→Cg x.Prime (nth (negv x.Prime (rowAt (x.Maps.getD k []) i)) i') (0 - 1*nth (rowAt (x.Maps.getD k []) i) i'):=fun i' h'=> by
   rw[nth_negv (by rw[hr.len]; exact h'),show(0:Int) - 1*nth (rowAt (x.Maps.getD k []) i) i'= -(nth (rowAt (x.Maps.getD k []) i) i') by omega];exact .mod _ _
  by_cases c:j < dc y k
  ·have e1:sumI (fun i'=> nth (rowAt (f.getD (k+1) []) i) i'*nth (rowAt (y.Maps.getD k []) i'++zv (xd x k)) j) (dc y (k+1))=dot (nth (rowAt (f.getD (k+1) []) i)) (y.Maps.getD k []) (dc y (k+1)) j:=sumI_congr fun i' h'=> by
    rw[nth_app,if_pos (by rw[(row_ok My h').len]; exact c)]
   have e2:sumI (fun i'=> nth (negv x.Prime (rowAt (x.Maps.getD k []) i)) i'*nth (rowAt (f.getD k []) i'++(if k=0 then []else negv x.Prime (rowAt (x.Maps.getD (k - 1) []) i'))) j) (dc x k)=dot (nth (negv x.Prime (rowAt (x.Maps.getD k []) i))) (f.getD k []) (dc x k) j:=sumI_congr fun i' h'=> by
    rw[nth_app,if_pos (by rw[(row_ok (F.t k (by omega)) h').len]; exact c)]
   rw[e1,e2];have c1:Cg x.Prime (dot (nth (negv x.Prime (rowAt (x.Maps.getD k []) i))) (f.getD k []) (dc x k) j) (dot (fun i'=>(fun _=>(0:Int)) i' - 1*nth (rowAt (x.Maps.getD k []) i) i') (f.getD k []) (dc x k) j):=dot_cg hng;rw[dot_lin,dot_zero (f:=fun _=>(0:Int)) fun _ _=> rfl]at c1;have ch:=hc (k+1) (by omega) hk i hi';simp only[Nat.add_sub_cancel]at ch;have H1:LinOK x.Prime (dc y k) (rowAt (x.Maps.getD k []) i) (f.getD k []):=lin_okof F.vx.p (F.t k (by omega)).len (F.t k (by omega)).rows (by omega) (by omega) hr;have Myr:Rows x.Prime (dc y k) (y.Maps.getD k []):=by have:=My.rows; rwa[F.pp]at this
   have H2:LinOK x.Prime (dc y k) (rowAt (f.getD (k+1) []) i) (y.Maps.getD k []):=lin_okof F.vx.p My.len Myr (by omega) (by omega) hu;have a1:=lin_at H1 c;have a2:=lin_at H2 c;rw[hr.len]at a1;rw[hu.len,←ch]at a2;have s:=Cg.add (a2.symm.trans a1) c1;refine s.trans ⟨0,by omega⟩
  ·have e1:sumI (fun i'=> nth (rowAt (f.getD (k+1) []) i) i'*nth (rowAt (y.Maps.getD k []) i'++zv (xd x k)) j) (dc y (k+1))=0:=sumI_zero fun i' h'=> by
    rw[nth_app,if_neg (by rw[(row_ok My h').len]; omega),nth_zv]; simp
   rw[e1,Int.zero_add];obtain⟨k',rfl⟩:∃k',k=k'+1:=by
    refine⟨k - 1,?_⟩;rcases Nat.eq_zero_or_pos k with h|h
    ·subst h; unfold xd at hj; rw[if_pos rfl]at hj; omega
    ·omega
   have ex':xd x (k'+1)=dc x k':=by unfold xd; rw[if_neg (by omega),Nat.add_sub_cancel]
   rw[ex']at hj;have M':=maps_tab F.vx (k:=k') (by omega);have e2:Cg x.Prime (sumI (fun i'=> nth (negv x.Prime (rowAt (x.Maps.getD (k'+1) []) i)) i'*nth (rowAt (f.getD (k'+1) []) i'++(if k'+1=0 then []else negv x.Prime (rowAt (x.Maps.getD (k'+1 - 1) []) i'))) j) (dc x (k'+1))) (dot (nth (rowAt (x.Maps.getD (k'+1) []) i)) (x.Maps.getD k' []) (dc x (k'+1)) (j - dc y (k'+1))):=sumI_cg fun i' h'=> by
    have hs:=row_ok M' h';rw[nth_app,if_neg (by rw[(row_ok (F.t (k'+1) (by omega)) h').len]; omega),if_neg (by omega:¬k'+1=0),Nat.add_sub_cancel,(row_ok (F.t (k'+1) (by omega)) h').len,nth_negv (v:=rowAt (x.Maps.getD k' []) i') (by rw[hs.len]; omega)];refine(Cg.mul (hng i' h') (.mod _ _)).trans ⟨0,by grind⟩
   exact e2.trans (sq_dot F.vx (k:=k') hk hi' (by omega))
theorem told_eq{p:Int}{w:Nat}{E:List (List Int)}(hE:Red p w E)(hl:E.length≤100)(hw:w≤1000){u:List Int}(hu:u.length=w):F359 E u=some (leadsOf E u):=by
 unfold F359;rw[forR_map (B:=F359_1_B E u) (D:=F359_1_D E u) (fun t=> nth u (ld t)) (by omega) (fun k hk s hs=> by
  have h1:=(hE.one _ (List.getElem_mem hk)).1;have ho:=(hE.ok _ (List.getElem_mem hk)).len;have hsl:s.length=k:=by simpa using hs
  unfold F359_1_B;rw[getI_nat hk,ob,F81_ld (by omega),if_pos (by omega),ob,nth_get (by omega),ob,app_ok (by simp; omega) (by simp; omega),ob]) (fun i s=> rfl),ob,List.nil_append]
 rfl
theorem told_put{c:List Int}{a m:Nat}(h:a+c.length≤m)(hm:m≤1000):F360 c (a:Int) (m:Int)=some (zv a++(c++zv (m - (a+c.length)))):=by
 unfold F360;rw[mkL_ok m rfl (by omega) (by omega),ob];obtain⟨t,g1,g2⟩:=forR_inv (B:=F360_1_B c (a:Int)) (D:=F360_1_D c (a:Int)) (hi:=(c.length:Int)) c.length rfl (by omega) (fun i s=> s=zv a++(c.take i++zv (m - (a+i)))) (fun t=> t=zv a++(c++zv (m - (a+c.length)))) (s:=List.replicate m 0) (by
  show _=_;rw[List.take_zero,List.nil_append];unfold zv;rw[List.replicate_append_replicate]
  congr 1; omega) (by
  rintro i s hi rfl;left;have hs:m - (a+i)=m - (a+(i+1))+1:=by omega
  have hlen:(zv a++(c.take i++zv (m - (a+i)))).length=m:=by simp[zv]; omega
  have hse:(zv a++(c.take i++zv (m - (a+i)))).set (a+i) c[i]=zv a++(c.take (i+1)++zv (m - (a+(i+1)))):=by
   rw[←List.append_assoc,List.set_append_right _ _ (by simp[zv]; omega),show a+i - (zv a++c.take i).length=0 by simp[zv]; omega,hs,←List.take_append_getElem hi];simp only[zv,List.replicate_succ,List.append_assoc,List.set_cons_zero,List.cons_append,List.nil_append]
  unfold F360_1_B;rw[chk_ok (by omega) (by omega),ob,getI_nat hi,ob,show(a:Int)+(i:Int)=((a+i:Nat):Int) by omega,getI_nat (by omega),ob,setI_nat (by omega),ob,hse];exact⟨_,rfl,rfl⟩) (by
  rintro s rfl;exact⟨_,rfl,by rw[List.take_length]⟩)
 rw[g1,g2,ob]
def cls(a m:Nat)(p:Int)(E B:List (List Int))(v:List Int):List Int:=zv a++(leadsOf E (rest p B v)++zv (m - (a+E.length)))
theorem leads_len{E:List (List Int)}{u:List Int}:(leadsOf E u).length=E.length:=by simp[leadsOf]
theorem cls_len{a m:Nat}{p:Int}{E B:List (List Int)}{v:List Int}(h:a+E.length≤m):(cls a m p E B v).length=m:=by
 unfold cls; simp[zv,leads_len]; omega
theorem spec_cls{x:GComplex}(hp:IsP x.Prime){n:Nat}{B E:List (List Int)}(H:Hol x n B E){v:List Int}(hv:VecOK x.Prime (dc x n) v){a m:Nat}(h:a+E.length≤m)(hm:m≤1000):∃r,F134 x.Prime B v=some r∧F359 E r=some (leadsOf E r)∧F360 (leadsOf E r) (a:Int) (m:Int)=some (cls a m x.Prime E B v):=by
 have hp0:0 < x.Prime:=by have:=hp.range; omega
 have hw:=H.w;have hbl:=red_len H.rb;have hr:=rest_ok hp0 H.rb.ok hv;refine⟨_,F134_eq hp.range H.rb hv (by omega) (by omega),told_eq H.re H.le (by omega) hr.len,?_⟩;rw[told_put (by rw[leads_len]; exact h) hm,leads_len];rfl
theorem impl_cls{x:GComplex}(hp:IsP x.Prime){n:Nat}{B E:List (List Int)}(H:Hol x n B E){v:List Int}(hv:VecOK x.Prime (dc x n) v){a m:Nat}(h:a+E.length≤m)(hm:m≤1000):F356 x (n:Int) (a:Int) (m:Int) v=some (cls a m x.Prime E B v):=by
 have hw:=H.w;have hll:=leads_len (E:=E) (u:=rest x.Prime B v);unfold F356;rw[mkL_ok m rfl (by omega) (by omega),ob,if_pos ⟨by omega,by omega⟩,H.ei,ob,H.bi,ob,F188_eq hp H.re H.rb hv (by omega),ob,Int.toNat_natCast,List.length_replicate,hll,Nat.min_eq_left (by omega:E.length≤m - a),←hll,List.take_length,hll,List.take_replicate,List.drop_replicate,Nat.min_eq_left (by omega:a≤m)];rfl
noncomputable def psN(x:GComplex):Nat→Nat
 |0=> 0
 |k+1=> psN x k+(hm x k).toNat
theorem ps_step{x:GComplex}{n:Nat}{B E:List (List Int)}(H:Hol x n B E):psN x (n+1)=psN x n+E.length:=by
 unfold psN; rw[H.hm,Int.toNat_natCast]; cases n <;> rfl
theorem ps_mono{x:GComplex}{a:Nat}:∀ {b:Nat},a≤b→psN x a≤psN x b:=fun {b} h=> by
 induction b with
 |zero=> rw[show a=0 by omega]; exact Nat.le_refl _
 |succ b ih=>
  rcases Nat.lt_or_ge a (b+1)with q|q
  ·exact Nat.le_trans (ih (by omega)) (Nat.le_add_right _ _)
  ·rw[show a=b+1 by omega]; exact Nat.le_refl _
structure Hols (x:GComplex) (q:Nat→List (List Int)×List (List Int)):Prop where
 p:IsP x.Prime
 l:x.Dims.length≤100
 at_:∀n,n < x.Dims.length→Hol x n (q n).1 (q n).2
theorem Hols.ps{x:GComplex}{q:Nat→List (List Int)×List (List Int)}(h:Hols x q):∀n,n≤x.Dims.length→psN x n≤100*n
 |0,_=> Nat.le_refl _
 |n+1,hn=> by
  have H:=h.at_ n (by omega);have:=H.le;have:=h.ps n (by omega);rw[ps_step H]; omega
theorem Hols.fit{x:GComplex}{q:Nat→List (List Int)×List (List Int)}(h:Hols x q){n:Nat}(hn:n < x.Dims.length):psN x n+(q n).2.length≤psN x x.Dims.length:=by
 rw[←ps_step (h.at_ n hn)]; exact ps_mono hn
noncomputable def psL(x:GComplex)(m:Nat):List Int:=(List.range m).map fun k=>(psN x k:Int)
theorem psL_len{x:GComplex}{m:Nat}:(psL x m).length=m:=by simp[psL]
theorem psL_at{x:GComplex}{m i:Nat}(h:i < m):getI (psL x m) (i:Int)=some (psN x i:Int):=by
 rw[getI_nat (by rw[psL_len]; exact h)]; simp[psL]
theorem psL_succ{x:GComplex}{m:Nat}:psL x (m+1)=psL x m++[(psN x m:Int)]:=by
 unfold psL; rw[List.range_succ,List.map_append]; rfl
theorem F355_eq{x:GComplex}{q:Nat→List (List Int)×List (List Int)}(h:Hols x q):F355 x=some ⟨psL x x.Dims.length,(psN x x.Dims.length:Int)⟩:=by
 have hl:=h.l;unfold F355;obtain⟨t,g1,g2⟩:=forR_inv (B:=F355_1_B x) (D:=F355_1_D x) (hi:=(x.Dims.length:Int)) x.Dims.length rfl (by omega) (fun i s=> s=(psL x i,(psN x i:Int))) (fun t=> t=(psL x x.Dims.length,(psN x x.Dims.length:Int))) (s:=([],0)) rfl (by
  rintro i s hi rfl;left;have H:=h.at_ i hi;have h1:=h.ps i (by omega);have h2:=H.le;unfold F355_1_B;simp only;rw[app_ok (by rw[psL_len]; simp; omega) (by rw[psL_len]; simp; omega),ob,H.i3,ob,chk_ok (by omega) (by omega),ob,←psL_succ,show(psN x i:Int)+((q i).2.length:Int)=(psN x (i+1):Int) by rw[ps_step H]; omega];exact⟨_,rfl,rfl⟩) (by
  rintro s rfl;exact⟨_,rfl,rfl⟩)
 rw[g1,g2,ob]
theorem off1_eq{x C:GComplex}{f:T3s}{q:Nat→List (List Int)×List (List Int)}(h:Hols x q):forR 0 (x.Dims.length:Int) (F354_1_B x f C) (F354_1_D x f C) [0]=some (psL x (x.Dims.length+1)):=by
 have hl:=h.l;obtain⟨t,g1,g2⟩:=forR_inv (B:=F354_1_B x f C) (D:=F354_1_D x f C) (hi:=(x.Dims.length:Int)) x.Dims.length rfl (by omega) (fun i s=> s=psL x (i+1)) (fun t=> t=psL x (x.Dims.length+1)) (s:=[0]) rfl (by
  rintro i s hi rfl;left;have H:=h.at_ i hi;have h1:=h.ps i (by omega);have h2:=H.le;unfold F354_1_B;rw[psL_at (by omega),ob,H.s3,ob,chk_ok (by omega) (by omega),ob,app_ok (by rw[psL_len]; simp; omega) (by rw[psL_len]; simp; omega),ob,show(psN x i:Int)+((q i).2.length:Int)=(psN x (i+1):Int) by rw[ps_step H]; omega,←psL_succ];exact⟨_,rfl,rfl⟩) (by
  rintro s rfl;exact⟨_,rfl,rfl⟩)
 rw[g1,g2]
theorem off2_eq{x C:GComplex}{f:T3s}{z:List Int}{q:Nat→List (List Int)×List (List Int)}(h:Hols C q)(hC:C.Dims.length=x.Dims.length+1):loopW (F354_2_S x f C z) ([0],0)=some (psL C (x.Dims.length+2)):=by
 have hl:=h.l;obtain⟨t,g1,g2⟩:=loopW_inv (S:=F354_2_S x f C z) (fun s=>(x.Dims.length+1 - s.2).toNat) (fun s=>∃i:Nat,i≤x.Dims.length+1∧s=(psL C (i+1),(i:Int))) (fun t=> t=psL C (x.Dims.length+2)) (s:=([0],0)) ⟨0,by omega,rfl⟩ (by
  rintro _ ⟨i,hi,rfl⟩;unfold F354_2_S;simp only;by_cases c:i≤x.Dims.length
  ·left
   have H:=h.at_ i (by omega);have h1:=h.ps i (by omega);have h2:=H.le;rw[if_pos (by omega),psL_at (by omega),ob,H.s3,ob,chk_ok (by omega) (by omega),ob,app_ok (by rw[psL_len]; simp; omega) (by rw[psL_len]; simp; omega),ob,show(psN C i:Int)+((q i).2.length:Int)=(psN C (i+1):Int) by rw[ps_step H]; omega,←psL_succ,chk_ok (by omega) (by omega),ob];exact⟨_,rfl,⟨i+1,by omega,rfl⟩,by simp only; omega⟩
  ·right
   rw[if_neg (by omega)];exact⟨_,rfl,by rw[show i=x.Dims.length+1 by omega]⟩)
 rw[g1,g2]
theorem forR_map2{α β σ:Type}{l:List α}(g1 g2:α→β)(mk:List β→List β→σ){B:Int→σ→Option (σ⊕σ)}{D:Int→σ→Option σ}{s0 t0:List β}(hl:l.length≤1000000)
  (hB:∀ (k:Nat) (hk:k < l.length) (s t:List β),s.length=s0.length+k→t.length=t0.length+k→B k (mk s t)=some (.inl (mk (s++[g1 l[k]]) (t++[g2 l[k]])))) (hD:∀i s,D i s=some s):forR 0 (l.length:Int) B D (mk s0 t0)=some (mk (s0++l.map g1) (t0++l.map g2)):=by
 obtain⟨t,h1,h2⟩:=forR_inv (B:=B) (D:=D) (hi:=(l.length:Int)) l.length rfl (by omega) (fun i s=> s=mk (s0++(l.map g1).take i) (t0++(l.map g2).take i)) (fun t=> t=mk (s0++l.map g1) (t0++l.map g2)) (s:=mk s0 t0) (by simp) (by
  rintro i s hi rfl;left;rw[hB i hi _ _ (by simp; omega) (by simp; omega)];refine⟨_,rfl,?_⟩;have e:∀g:α→β,(l.map g).take (i+1)=(l.map g).take i++[g l[i]]:=fun g=> by
   rw[←List.take_append_getElem (show i < (l.map g).length by simpa using hi),List.getElem_map]
  rw[e g1,e g2,List.append_assoc,List.append_assoc]) (by
  rintro s rfl;exact⟨_,hD _ _,by rw[show l.length=(l.map g1).length by simp,List.take_length,show(l.map g1).length=(l.map g2).length by simp,List.take_length]⟩)
 rw[h1,h2]
theorem forR_coll2{β σ:Type}{N:Nat}(hN:N≤1000000)(r1 r2:Nat→List β)(mk:List β→List β→σ){B:Int→σ→Option (σ⊕σ)}{D:Int→σ→Option σ}(hB:∀n,n < N→B (n:Int) (mk (coll n r1) (coll n r2))=some (.inl (mk (coll n r1++r1 n) (coll n r2++r2 n))))(hD:∀i s,D i s=some s):forR 0 (N:Int) B D (mk [] [])=some (mk (coll N r1) (coll N r2)):=by
 obtain⟨t,h1,h2⟩:=forR_inv (B:=B) (D:=D) (hi:=(N:Int)) N rfl (by omega) (fun i s=> s=mk (coll i r1) (coll i r2)) (fun t=> t=mk (coll N r1) (coll N r2)) (s:=mk [] []) (by simp[coll]) (by
  rintro i s hi rfl;left;exact⟨_,hB i hi,by rw[coll_succ,coll_succ]⟩) (by
  rintro s rfl;exact⟨_,hD _ _,rfl⟩)
 rw[h1,h2]
theorem coll_le{β:Type}{r:Nat→List β}{N:Nat}(h:∀i,i < N→(r i).length≤100):∀n,n≤N→(coll n r).length≤100*n
 |0,_=> by simp[coll]
 |n+1,hn=> by
  have:=h n (by omega);have:=coll_le h n (by omega);rw[coll_succ,List.length_append]; omega
abbrev HF:=Nat→List (List Int)×List (List Int)
structure CMap (x:GComplex) (f:T3s) (C:GComplex) (q r:HF):Prop where
 F:Fam x x f
 l:C.Dims.length=x.Dims.length+1
 p:C.Prime=x.Prime
 d:∀n,n≤x.Dims.length→dc C n=dc x n+xd x n
 q:Hols x q
 r:Hols C r
 m1:psN x x.Dims.length≤1000
 m2:psN C (x.Dims.length+1)≤1000
noncomputable def gI(x:GComplex)(f:T3s)(q:HF)(n:Nat)(a:List Int):List Int:=cls (psN x n) (psN x x.Dims.length) x.Prime (q n).2 (q n).1 (lin x.Prime (dc x n) a (f.getD n []))
noncomputable def gJ(x C:GComplex)(r:HF)(n:Nat)(a:List Int):List Int:=cls (psN C n) (psN C (x.Dims.length+1)) C.Prime (r n).2 (r n).1 (a++zv (xd x n))
noncomputable def gK(x:GComplex)(q:HF)(n:Nat)(c:List Int):List Int:=if n=0 then zv (psN x x.Dims.length)else cls (psN x (n - 1)) (psN x x.Dims.length) x.Prime (q (n - 1)).2 (q (n - 1)).1 (c.drop (dc x n))
noncomputable def rI(x:GComplex)(f:T3s)(q:HF)(n:Nat):List (List Int):=(q n).2.map (gI x f q n)
noncomputable def rJ(x C:GComplex)(q r:HF)(n:Nat):List (List Int):=(q n).2.map (gJ x C r n)
noncomputable def rK(x:GComplex)(q r:HF)(n:Nat):List (List Int):=(r n).2.map (gK x q n)
variable {x C:GComplex} {f:T3s} {q r:HF}
theorem CMap.fitC(h:CMap x f C q r){n:Nat}(hn:n≤x.Dims.length):psN C n+(r n).2.length≤psN C (x.Dims.length+1):=by
 have:=h.r.fit (n:=n) (by rw[h.l]; omega)
 rwa[h.l]at this
theorem CMap.vec(h:CMap x f C q r){n:Nat}(hn:n < x.Dims.length){a:List Int}(ha:a∈(q n).2):VecOK x.Prime (dc x n) a∧F80 x.Prime (f.getD n []) a (dc x n:Int)=some (lin x.Prime (dc x n) a (f.getD n []))∧F309 x x f 0 (n:Int) a=some (lin x.Prime (dc x n) a (f.getD n []))∧VecOK x.Prime (dc x n) (lin x.Prime (dc x n) a (f.getD n []))∧VecOK C.Prime (dc C n) (a++zv (xd x n))∧a.length=dc x n:=by
 have H:=h.q.at_ n hn;have hv:=H.re.ok a ha;have hp0:0 < x.Prime:=by have:=h.q.p.range; omega
 have hd:=dc_le h.F.vx n;have hl:=h.q.l;have hfl:=h.F.fl;obtain⟨l1,l2,l3⟩:=linT h.F.vx.p (h.F.t n hn) (by omega) (by omega) hv;refine⟨hv,l1,?_,l3,?_,hv.len⟩
 ·unfold F309
  rw[F86_eq h.F.sx.d,ob,F56_eq,ob,if_pos (by simp; omega),chk_ok (by omega) (by omega),ob,show(n:Int)+0=(n:Int) by omega,F102_dc h.F.sx h.F.vx (by omega),ob,getI_getD (show n < f.length by omega) [],ob,l2,ob]
 ·rw[h.p,h.d n (by omega)]
  exact⟨by rw[List.length_append,hv.len]; simp[zv],fun j hj=> by
   rw[nth_app];split
   ·exact hv.rng j (by rw[←hv.len]; assumption)
   ·rw[nth_zv]; omega⟩
theorem in2_eq(h:CMap x f C q r){n:Nat}(hn:n < x.Dims.length){s0 t0:List (List Int)}(hs:s0.length≤100000)(ht:t0.length≤100000):
  forR 0 ((q n).2.length:Int) (F346_2_B x f C ⟨psL x x.Dims.length,(psN x x.Dims.length:Int)⟩ ⟨psL C (x.Dims.length+1),(psN C (x.Dims.length+1):Int)⟩ (n:Int) (q n).2) (F346_2_D x f C ⟨psL x x.Dims.length,(psN x x.Dims.length:Int)⟩ ⟨psL C (x.Dims.length+1),(psN C (x.Dims.length+1):Int)⟩ (n:Int) (q n).2) (s0,t0)=some (s0++rI x f q n,t0++rJ x C q r n):=by
 have H:=h.q.at_ n hn;have hle:=H.le;have hl:=h.q.l;have hd:=dc_le h.F.vx n;have hxd:=xd_le h.F.vx n;refine forR_map2 (gI x f q n) (gJ x C r n) (fun s t=>(s,t)) (by omega) (fun k hk s t h1 h2=>?_) fun i s=> rfl;obtain⟨v1,v2,v3,v4,v5,v6⟩:=h.vec hn (List.getElem_mem hk);have HC:=h.r.at_ n (by rw[h.l]; omega);unfold F346_2_B;dsimp only;rw[getI_nat hk,ob,psL_at hn,ob,v3,ob,impl_cls h.q.p H v4 (h.q.fit hn) h.m1,ob,app_ok (by simp; omega) (by simp; omega),ob,psL_at (by omega),ob,F96_eq (by omega),ob,chk_ok (by omega) (by omega),ob,F102_xd h.F.sx h.F.vx (by omega),ob,appZ_ok (by omega) (by omega),ob,impl_cls h.r.p HC v5 (h.fitC (by omega)) h.m2,ob,app_ok (by simp; omega) (by simp; omega),ob];rfl
theorem in4_eq(h:CMap x f C q r){n:Nat}(hn:n < x.Dims.length){s0 t0:List (List Int)}(hs:s0.length≤100000)(ht:t0.length≤100000)(P:Int):
  forR 0 ((q n).2.length:Int) (F354_4_B x f C (psL x (x.Dims.length+1)) (psL C (x.Dims.length+2)) (n:Int) (q n).2 (q n).1 (r n).2 (r n).1) (F354_4_D x f C (psL x (x.Dims.length+1)) (psL C (x.Dims.length+2)) (n:Int) (q n).2 (q n).1 (r n).2 (r n).1) (s0,t0,P,(psN x x.Dims.length:Int),(psN C (x.Dims.length+1):Int))=some (s0++rI x f q n,t0++rJ x C q r n,P,(psN x x.Dims.length:Int),(psN C (x.Dims.length+1):Int)):=by
 have H:=h.q.at_ n hn;have hle:=H.le;have hl:=h.q.l;have hd:=dc_le h.F.vx n;have hxd:=xd_le h.F.vx n;have hfl:=h.F.fl;refine forR_map2 (gI x f q n) (gJ x C r n) (fun s t=>(s,t,P,(psN x x.Dims.length:Int),(psN C (x.Dims.length+1):Int))) (by omega) (fun k hk s t h1 h2=>?_) fun i s=> rfl;obtain⟨v1,v2,v3,v4,v5,v6⟩:=h.vec hn (List.getElem_mem hk);have HC:=h.r.at_ n (by rw[h.l]; omega);obtain⟨a,a1,a2,a3⟩:=spec_cls h.q.p H v4 (h.q.fit hn) h.m1;obtain⟨b,b1,b2,b3⟩:=spec_cls h.r.p HC v5 (h.fitC (by omega)) h.m2;rw[h.p]at b1;unfold F354_4_B;dsimp only;rw[getI_getD (show n < f.length by omega) [],ob,getI_nat hk,ob,getI_getD hn 0,ob,dc_at h.F.vx hn,v2,ob,a1,ob,a2,ob,psL_at (by omega),ob,a3,ob,app_ok (by simp; omega) (by simp; omega),ob,F94_eq (by omega),ob,chk_ok (by omega) (by omega),ob,F99_xd h.F.sx h.F.vx (by omega),ob,appZ_ok (by omega) (by omega),ob,b1,ob,b2,ob,psL_at (by omega),ob,b3,ob,app_ok (by simp; omega) (by simp; omega),ob];rfl
theorem slI_drop{l:List Int}{d:Nat}(h:d≤l.length):slI l (d:Int) (l.length:Int)=some (l.drop d):=by
 unfold slI;rw[if_pos ⟨by omega,by omega,by omega⟩];simp
theorem CMap.low(h:CMap x f C q r){n:Nat}(hn:n+1≤x.Dims.length){c:List Int}(hc:c∈(r (n+1)).2):c.length=dc x (n+1)+dc x n∧VecOK x.Prime (dc x n) (c.drop (dc x (n+1))):=by
 have H:=h.r.at_ (n+1) (by rw[h.l]; omega);have hv:=H.re.ok c hc;rw[h.p,h.d (n+1) hn,show xd x (n+1)=dc x n by unfold xd; rw[if_neg (by omega),Nat.add_sub_cancel]]at hv;exact⟨hv.len,hv.drop⟩
theorem inK_eq(h:CMap x f C q r){n:Nat}(hn:n≤x.Dims.length){s0:List (List Int)}(hs:s0.length≤100000)(ot:T2 (List Int) Int):
  forR 0 ((r n).2.length:Int) (F346_4_B x f C ⟨psL x x.Dims.length,(psN x x.Dims.length:Int)⟩ ot (n:Int) (r n).2) (F346_4_D x f C ⟨psL x x.Dims.length,(psN x x.Dims.length:Int)⟩ ot (n:Int) (r n).2) s0=some (s0++rK x q r n):=by
 have H:=h.r.at_ n (by rw[h.l]; omega);have hle:=H.le;have hl:=h.q.l;have hm:=h.m1;refine forR_map (gK x q n) (by omega) (fun k hk s h1=>?_) fun i s=> rfl;unfold F346_4_B;dsimp only;rw[getI_nat hk,ob,mkL_ok (psN x x.Dims.length) rfl (by omega) (by omega),ob];cases n with
 |zero=>
  rw[if_neg (by omega),app_ok (by simp; omega) (by simp; omega),ob];rfl
 |succ n=>
  obtain⟨c1,c2⟩:=h.low hn (List.getElem_mem hk);rw[if_pos (by omega),chk_ok (by omega) (by omega),ob,show((n+1:Nat):Int) - 1=(n:Int) by omega,psL_at (by omega),ob,F102_dc h.F.sx h.F.vx (by omega),ob,slI_drop (by omega),ob,impl_cls h.q.p (h.q.at_ n (by omega)) c2 (h.q.fit (by omega)) h.m1,ob,app_ok (by simp; omega) (by simp; omega),ob];rfl
theorem in6_eq(h:CMap x f C q r){n:Nat}(hn:n≤x.Dims.length){s0:List (List Int)}(hs:s0.length≤100000)(z4:List Int)(I J:List (List Int))(P D:Int):
  forR 0 ((r n).2.length:Int) (F354_6_B x C (psL x (x.Dims.length+1)) z4 I J (n:Int) (r n).2) (F354_6_D x C (psL x (x.Dims.length+1)) z4 I J (n:Int) (r n).2) (s0,P,(psN x x.Dims.length:Int),D)=some (s0++rK x q r n,P,(psN x x.Dims.length:Int),D):=by
 have H:=h.r.at_ n (by rw[h.l]; omega);have hle:=H.le;have hl:=h.q.l;have hm:=h.m1;refine forR_map2 (gK x q n) (gK x q n) (fun s _=>(s,P,(psN x x.Dims.length:Int),D)) (s0:=s0) (t0:=[]) (by omega) (fun k hk s t h1 h2=>?_) fun i s=> rfl;unfold F354_6_B;dsimp only;cases n with
 |zero=>
  rw[if_pos (by omega),mkL_ok (psN x x.Dims.length) rfl (by omega) (by omega),ob,app_ok (by simp; omega) (by simp; omega),ob];rfl
 |succ n=>
  obtain⟨c1,c2⟩:=h.low hn (List.getElem_mem hk);have Hn:=h.q.at_ n (by omega);obtain⟨a,a1,a2,a3⟩:=spec_cls h.q.p Hn c2 (h.q.fit (by omega)) h.m1;rw[if_neg (by omega),chk_ok (by omega) (by omega),ob,show((n+1:Nat):Int) - 1=(n:Int) by omega,Hn.bs,ob,getI_nat hk,ob,F99_dc h.F.sx h.F.vx (by omega),ob,slI_drop (by omega),ob,a1,ob,Hn.es,ob,a2,ob,psL_at (by omega),ob,a3,ob,app_ok (by simp; omega) (by simp; omega),ob];rfl
theorem CMap.lens(h:CMap x f C q r):(∀n,n≤x.Dims.length→(coll n (rI x f q)).length≤10000∧(coll n (rJ x C q r)).length≤10000)∧∀n,n≤x.Dims.length+1→(coll n (rK x q r)).length≤10100:=by
 have hl:=h.q.l;have a:∀n,n < x.Dims.length→(q n).2.length≤100:=fun n hn=>(h.q.at_ n hn).le;have b:∀n,n < x.Dims.length+1→(r n).2.length≤100:=fun n hn=>(h.r.at_ n (by rw[h.l]; exact hn)).le;refine⟨fun n hn=>⟨?_,?_⟩,fun n hn=>?_⟩
 ·have:=coll_le (r:=rI x f q) (N:=x.Dims.length) (fun i hi=> by unfold rI; rw[List.length_map]; exact a i hi) n hn
  omega
 ·have:=coll_le (r:=rJ x C q r) (N:=x.Dims.length) (fun i hi=> by unfold rJ; rw[List.length_map]; exact a i hi) n hn
  omega
 ·have:=coll_le (r:=rK x q r) (N:=x.Dims.length+1) (fun i hi=> by unfold rK; rw[List.length_map]; exact b i hi) n hn
  omega
theorem out1_eq(h:CMap x f C q r):forR 0 (x.Dims.length:Int) (F346_1_B x f C ⟨psL x x.Dims.length,(psN x x.Dims.length:Int)⟩ ⟨psL C (x.Dims.length+1),(psN C (x.Dims.length+1):Int)⟩) (F346_1_D x f C ⟨psL x x.Dims.length,(psN x x.Dims.length:Int)⟩ ⟨psL C (x.Dims.length+1),(psN C (x.Dims.length+1):Int)⟩) ([],[])=some (coll x.Dims.length (rI x f q),coll x.Dims.length (rJ x C q r)):=by
 have hl:=h.q.l;refine forR_coll2 (by omega) (rI x f q) (rJ x C q r) (fun s t=>(s,t)) (fun n hn=>?_) fun i s=> rfl;obtain⟨l1,l2⟩:=h.lens.1 n (by omega);unfold F346_1_B;rw[(h.q.at_ n hn).ei,ob,in2_eq h hn (by omega) (by omega),ob]
theorem out3_eq(h:CMap x f C q r)(P:Int):forR 0 (x.Dims.length:Int) (F354_3_B x f C (psL x (x.Dims.length+1)) (psL C (x.Dims.length+2))) (F354_3_D x f C (psL x (x.Dims.length+1)) (psL C (x.Dims.length+2))) ([],[],P,(psN x x.Dims.length:Int),(psN C (x.Dims.length+1):Int))=some (coll x.Dims.length (rI x f q),coll x.Dims.length (rJ x C q r),P,(psN x x.Dims.length:Int),(psN C (x.Dims.length+1):Int)):=by
 have hl:=h.q.l;refine forR_coll2 (by omega) (rI x f q) (rJ x C q r) (fun s t=>(s,t,P,(psN x x.Dims.length:Int),(psN C (x.Dims.length+1):Int))) (fun n hn=>?_) fun i s=> rfl;obtain⟨l1,l2⟩:=h.lens.1 n (by omega);have H:=h.q.at_ n hn;have HC:=h.r.at_ n (by rw[h.l]; omega);unfold F354_3_B;dsimp only;rw[H.es,ob,H.bs,ob,HC.es,ob,HC.bs,ob,in4_eq h hn (by omega) (by omega),ob]
theorem outK_eq(h:CMap x f C q r)(ot:T2 (List Int) Int):forR 0 (C.Dims.length:Int) (F346_3_B x f C ⟨psL x x.Dims.length,(psN x x.Dims.length:Int)⟩ ot) (F346_3_D x f C ⟨psL x x.Dims.length,(psN x x.Dims.length:Int)⟩ ot) []=some (coll (x.Dims.length+1) (rK x q r)):=by
 have hl:=h.q.l;rw[h.l];refine forR_coll2 (by omega) (rK x q r) (fun _=>[]) (fun s _=> s) (fun n hn=>?_) fun i s=> rfl;have l1:=h.lens.2 n (by omega);unfold F346_3_B;rw[(h.r.at_ n (by rw[h.l]; exact hn)).ei,ob,inK_eq h (by omega) (by omega),ob]
theorem out5_eq(h:CMap x f C q r)(z4:List Int)(I J:List (List Int))(P D:Int):loopW (F354_5_S x C (psL x (x.Dims.length+1)) z4 I J) ([],P,(psN x x.Dims.length:Int),D,0)=some (coll (x.Dims.length+1) (rK x q r),P,(psN x x.Dims.length:Int),D):=by
 have hl:=h.q.l;obtain⟨t,g1,g2⟩:=loopW_inv (S:=F354_5_S x C (psL x (x.Dims.length+1)) z4 I J) (fun s=>(x.Dims.length+1 - s.2.2.2.2).toNat) (fun s=>∃n:Nat,n≤x.Dims.length+1∧s=(coll n (rK x q r),P,(psN x x.Dims.length:Int),D,(n:Int))) (fun t=> t=(coll (x.Dims.length+1) (rK x q r),P,(psN x x.Dims.length:Int),D)) (s:=([],P,(psN x x.Dims.length:Int),D,0)) ⟨0,by omega,by simp[coll]⟩ (by
  rintro _ ⟨n,hn,rfl⟩;have l1:=h.lens.2 n hn;unfold F354_5_S;simp only;by_cases c:n≤x.Dims.length
  ·left
   rw[if_pos (by omega),(h.r.at_ n (by rw[h.l]; omega)).es,ob,in6_eq h c (by omega),ob];dsimp only;rw[chk_ok (by omega) (by omega),ob];exact⟨_,rfl,⟨n+1,by omega,by rw[coll_succ]; rfl⟩,by simp only; omega⟩
  ·right
   rw[if_neg (by omega)];exact⟨_,rfl,by rw[show n=x.Dims.length+1 by omega]⟩)
 rw[g1,g2]
structure SmallW (w:GCouple):Prop where
 i:w.I.length≤1048576∧∀r∈w.I,r.length≤1048576
 j:w.J.length≤1048576∧∀r∈w.J,r.length≤1048576
 k:w.K.length≤1048576∧∀r∈w.K,r.length≤1048576
theorem SmallW.none:SmallW ⟨0,0,0,[],[],[]⟩:=⟨⟨by simp,fun r hr=> nomatch hr⟩,⟨by simp,fun r hr=> nomatch hr⟩,⟨by simp,fun r hr=> nomatch hr⟩⟩
theorem couple_good{x:GComplex}{f:T3s}(F:Fam x x f)(hc:ChainP x x f):∃ (w:GCouple) (b:Bool),F354 x f=some ⟨w,b⟩∧SmallW w∧
  ∃y os ot,F245 x x f=some y∧F355 x=some os∧F355 y=some ot∧(if 24 < os.b then some ⟨⟨0,0,0,[],[],[]⟩,3⟩else if 24 < ot.b then some ⟨⟨0,0,0,[],[],[]⟩,3⟩
   else(forR 0 (x.Dims.length:Int) (F346_1_B x f y os ot) (F346_1_D x f y os ot) (([],[]):List (List Int)×List (List Int))).bind fun t=>
    (forR 0 (y.Dims.length:Int) (F346_3_B x f y os ot) (F346_3_D x f y os ot) ([]:List (List Int))).bind fun k=> some (⟨⟨x.Prime,os.b,ot.b,t.1,t.2,k⟩,0⟩:T2 GCouple Int))=(if b=true then some ⟨w,0⟩else some ⟨⟨0,0,0,[],[],[]⟩,3⟩):=by
 have hdl:=F.vx.dl;have hcs:=cone_small F;have hcw:=cone_wide F;have hsq:=cone_sq F hc;have hx2:SqC x:=fun k h0 hk=> F.vx.sq k h0 hk;obtain⟨q,hq⟩:=Classical.axiomOfChoice (hol_wide F.sx F.vx.wide hx2);obtain⟨r,hr⟩:=Classical.axiomOfChoice (hol_wide hcs hcw hsq);have e243:=F243_eq F;have e245:=F245_eq F;have hd:∀n,n≤x.Dims.length→dc (⟨x.Prime,coneD x x,coneT x x f⟩:GComplex) n=dc x n+xd x n:=fun n hn=> by
  unfold dc; simp only; rw[coneD_at hn,Int.toNat_natCast]; rfl
 have hCl:(⟨x.Prime,coneD x x,coneT x x f⟩:GComplex).Dims.length=x.Dims.length+1:=coneD_len;have hCp:(⟨x.Prime,coneD x x,coneT x x f⟩:GComplex).Prime=x.Prime:=rfl;generalize (⟨x.Prime,coneD x x,coneT x x f⟩:GComplex)=C at*;have Hq:Hols x q:=⟨F.vx.p,by omega,hq⟩;have Hr:Hols C r:=⟨by rw[hCp]; exact F.vx.p,by omega,hr⟩;have m1:=Hq.ps x.Dims.length (Nat.le_refl _);have m2:=Hr.ps C.Dims.length (Nat.le_refl _);rw[hCl]at m2;have h:CMap x f C q r:=⟨F,hCl,hCp,hd,Hq,Hr,by omega,by omega⟩;have i1:=F355_eq Hq;have i2:=F355_eq Hr;rw[hCl]at i2;unfold F354;rw[e243,ob,off1_eq Hq,ob,off2_eq Hr hCl,ob,psL_at (by omega),ob,chk_ok (by omega) (by omega),ob,show(x.Dims.length:Int)+1=((x.Dims.length+1:Nat):Int) by omega,psL_at (by omega),ob];by_cases c1:24 < (psN x x.Dims.length:Int)
 ·rw[if_pos c1]
  exact⟨_,_,rfl,SmallW.none,C,_,_,e245,i1,i2,by simp only; rw[if_pos c1]; rfl⟩
 rw[if_neg c1];by_cases c2:24 < (psN C (x.Dims.length+1):Int)
 ·rw[if_pos c2]
  exact⟨_,_,rfl,SmallW.none,C,_,_,e245,i1,i2,by simp only; rw[if_neg c1,if_pos c2]; rfl⟩
 rw[if_neg c2,out3_eq h,ob];dsimp only;rw[out5_eq h,ob];dsimp only;refine⟨_,_,rfl,?_,C,_,_,e245,i1,i2,by simp only; rw[if_neg c1,if_neg c2,out1_eq h,ob,outK_eq h,ob]; rfl⟩;obtain⟨l1,l2⟩:=h.lens.1 x.Dims.length (Nat.le_refl _);have l3:=h.lens.2 (x.Dims.length+1) (Nat.le_refl _);refine⟨⟨by simp only; omega,fun v hv=>?_⟩,⟨by simp only; omega,fun v hv=>?_⟩,⟨by simp only; omega,fun v hv=>?_⟩⟩
 ·obtain⟨i,hi,hy⟩:=mem_coll.1 hv
  obtain⟨a,ha,rfl⟩:=List.mem_map.1 hy;unfold gI;rw[cls_len (Hq.fit hi)]; omega
 ·obtain⟨i,hi,hy⟩:=mem_coll.1 hv
  obtain⟨a,ha,rfl⟩:=List.mem_map.1 hy;unfold gJ;rw[cls_len (h.fitC (by omega))]; omega
 ·obtain⟨i,hi,hy⟩:=mem_coll.1 hv
  obtain⟨a,ha,rfl⟩:=List.mem_map.1 hy;unfold gK;split
  ·simp[zv]; omega
  ·rw[cls_len (Hq.fit (by omega))]; omega
theorem couple_same{x:GComplex}{f:T3s}(hx:SmallC x)(hf:SmallT f):∃w c,F345 x f=some ⟨w,c⟩∧F346 x f=some ⟨w,c⟩∧SmallW w:=by
 obtain⟨c,c1,c2,c3⟩:=fam_same hx hx hf;obtain⟨b,b1,b2⟩:=F39_tells hx;have bad:c≠0→F346 x f=some ⟨⟨0,0,0,[],[],[]⟩,c⟩:=fun h0=> by
  unfold F346 F244;rw[c2,ob,if_neg h0,ob,if_neg h0]
 unfold F345;rw[b1,ob];cases b with
 |false=>
  have hc:c=1:=by
   unfold F270 F302 at c1;rw[b1,ob,if_neg Bool.false_ne_true,ob,if_neg (by decide)]at c1;exact(Option.some.inj c1).symm
  rw[if_neg Bool.false_ne_true];subst hc;exact⟨_,_,rfl,bad (by decide),SmallW.none⟩
 |true=>
  rw[if_pos rfl];unfold F353;rw[c1,ob];by_cases h0:c=0
  case neg=>
   rw[if_neg h0,ob];simp only;rw[if_neg h0];exact⟨_,_,rfl,bad h0,SmallW.none⟩
  have F:=c3 h0;subst h0;obtain⟨t,d1,d2,d3⟩:=(F271_tells F).same (F308_tells F);have h275:F275 f x x=some (!t):=by unfold F275; rw[d2,ob]
  rw[if_pos rfl,d1,ob,ob];simp only;rw[if_pos trivial];unfold F346 F244;rw[c2,ob,if_pos rfl,F276_one (g:=fun z=> F275 z x x) h275,ob];cases t with
  |false=>
   rw[if_neg Bool.false_ne_true,Bool.not_false,if_pos rfl,ob,if_neg (by decide)];exact⟨_,_,rfl,rfl,SmallW.none⟩
  |true=>
   rw[if_pos rfl,Bool.not_true,if_neg Bool.false_ne_true,ob,if_pos rfl];obtain⟨w,bb,g1,g2,y,os,ot,g3,g4,g5,g6⟩:=couple_good F (d3.1 rfl);rw[g1,ob,g3,ob,g4,ob,g5,ob,g6];cases bb with
   |true=> exact⟨w,0,rfl,rfl,g2⟩
   |false=> exact⟨_,3,rfl,rfl,SmallW.none⟩
theorem F347_refl{w:GCouple}(h:SmallW w):F347 w w=some true:=by
 unfold F347;rw[if_pos rfl,if_pos rfl,if_pos rfl,F51_same h.i.1 h.i.2,ob,if_pos rfl,F51_same h.j.1 h.j.2,ob,if_pos rfl,F51_same h.k.1 h.k.2,ob,if_pos rfl]
theorem FM348_mk{w:GCouple}(h:SmallW w):∃y m,FM348 w 1=some (y,m)∧F349 y 1=some m∧0≤m:=by
 obtain⟨d,j1,e1,k1⟩:=F52_mk h.i.1 h.i.2 (k:=1) (by decide) (by decide);have a1:=k1.2.1;have b1:=k1.2.2.1;obtain⟨u,j2,e2,k2⟩:=F52_mk h.j.1 h.j.2 (k:=j1) (by omega) (by omega);have a2:=k2.2.1;have b2:=k2.2.2.1;obtain⟨b,j3,e3,k3⟩:=F52_mk h.k.1 h.k.2 (k:=j2) (by omega) (by omega);have a3:=k3.2.1;have b3:=k3.2.2.1;refine⟨⟨w.Prime,w.D,w.E,d,u,b⟩,j3,?_,?_,by omega⟩
 ·unfold FM348
  rw[e1,ob];simp only;rw[e2,ob];simp only;rw[e3,ob]
 ·unfold F349
  rw[F59_held k1 (by decide) (by omega),ob,if_neg (by omega),F59_held k2 (by omega) (by omega),ob,if_neg (by omega),F59_held k3 (by omega) (by omega),ob,if_neg (by omega)]
theorem law20{x:GComplex}{f:T3s}(hx:LongC x)(hm:LongL (LongL (LongL Long0)) f):L362 x f:=by
 unfold L362;obtain⟨z,a1,a2⟩:=F10_eq hx (s:=1048576) (by decide) (by decide);rcases a2 with a2|⟨a2,a3,hx'⟩
 ·exact .inl ⟨z,a1,a2⟩
 obtain⟨z',b1,b2⟩:=F11_eq hm (s:=z) a2 a3;rcases b2 with b2|⟨b2,b3,b4,b5⟩
 ·exact .inr (.inl ⟨z,z',a1,by omega,b1,b2⟩)
 have hf:SmallT f:=⟨b4,b5⟩;obtain⟨w,c,s1,s2,s3⟩:=couple_same hx' hf;obtain⟨x',m0,e1,e2,e3, -⟩:=FM20_m hx' (k:=1) (by decide) (by decide);obtain⟨y,m,g1,g2,g3⟩:=FM348_mk s3;obtain⟨f',m1,h1,h2⟩:=F21_mk b4 b5 (k:=m0) (by omega) (by omega);have h3:=h2.2.1;exact .inr (.inr ⟨z,z',x,f,w,c,(x',m0),(f',m1),(y,m),a1,by omega,b1,by omega,F12_eq hx',F13_eq b4 b5,s1,s2,F347_refl s3,F16_same hx',F17_same b4 b5,e1,h1,by simp only; omega,g1,g2,by simp only; omega⟩)
end Rv
