/- The plain law: what the typed functions answer: part 2 -/
import Derived.Test.YtfecoipgcigamaaGreatTcq0
namespace Rv
set_option linter.unusedVariables false
set_option linter.unusedSimpArgs false
set_option maxRecDepth 10000
theorem forI_inv{σ τ:Type}{B:Int→σ→Option (σ⊕τ)}{D:Int→σ→Option τ}(Inv:Nat→σ→Prop)(Q:τ→Prop)(n:Nat):
  ∀ (k i:Nat) (s:σ),i+k=n→Inv i s→(∀i s,i < n→Inv i s→(∃s',B i s=some (.inl s')∧Inv (i+1) s')∨∃t,B i s=some (.inr t)∧Q t)→(∀s,Inv n s→∃t,D n s=some t∧Q t)→∃t,forI B D k i s=some t∧Q t:=by
 intro k;induction k with
 |zero=>
  intro i s hk hI hb hd;have:i=n:=by omega
  subst this;exact hd s hI
 |succ k ih=>
  intro i s hk hI hb hd;simp only[forI];rcases hb i s (by omega) hI with⟨s',h1,h2⟩|⟨t,h1,h2⟩
  ·rw[h1]
   have:=ih (i+1) s' (by omega) h2 hb hd;simpa using this
  ·rw[h1]; exact⟨t,rfl,h2⟩
theorem forR_inv{σ τ:Type}{B:Int→σ→Option (σ⊕τ)}{D:Int→σ→Option τ}{hi:Int}(n:Nat)(hn:hi=n)(hs:n < 4611686018427387904)(Inv:Nat→σ→Prop)(Q:τ→Prop){s:σ}(h0:Inv 0 s)
  (hb:∀ (i:Nat) s,i < n→Inv i s→(∃s',B i s=some (.inl s')∧Inv (i+1) s')∨∃t,B i s=some (.inr t)∧Q t) (hd:∀s,Inv n s→∃t,D n s=some t∧Q t):∃t,forR 0 hi B D s=some t∧Q t:=by
 subst hn;unfold forR;rw[if_pos (by omega)];have e:((n:Int) - 0).toNat=n:=by omega
 rw[e];exact forI_inv Inv Q n n 0 s (by omega) h0 hb hd
theorem forR_from{σ τ:Type}{B:Int→σ→Option (σ⊕τ)}{D:Int→σ→Option τ}{lo hi:Int}(l n:Nat)(hl:lo=l)(hn:hi=n)(hln:l≤n)(hs:n < 4611686018427387904)(Inv:Nat→σ→Prop)(Q:τ→Prop){s:σ}(h0:Inv l s)
  (hb:∀ (i:Nat) s,i < n→Inv i s→(∃s',B i s=some (.inl s')∧Inv (i+1) s')∨∃t,B i s=some (.inr t)∧Q t) (hd:∀s,Inv n s→∃t,D n s=some t∧Q t):∃t,forR lo hi B D s=some t∧Q t:=by
 subst hn; subst hl;unfold forR;rw[if_pos (by omega)];have e:((n:Int) - (l:Int)).toNat=n - l:=by omega
 rw[e];exact forI_inv Inv Q n (n - l) l s (by omega) h0 hb hd
theorem loopW_inv{σ τ:Type}{S:σ→Option (σ⊕τ)}(μ:σ→Nat)(Inv:σ→Prop)(Q:τ→Prop){s:σ}(h0:Inv s)
  (hb:∀s,Inv s→(∃s',S s=some (.inl s')∧Inv s'∧μ s' < μ s)∨∃t,S s=some (.inr t)∧Q t):∃t,loopW S s=some t∧Q t:=by
 suffices∀k s,μ s≤k→Inv s→∃t,loopW S s=some t∧Q t from this _ s (Nat.le_refl _) h0
 intro k;induction k with
 |zero=>
  intro s hk hI;rcases hb s hI with⟨s',h1,h2,h3⟩|⟨t,h1,h2⟩
  ·omega
  ·exact⟨t,loopW_eq.2 (.inr h1),h2⟩
 |succ k ih=>
  intro s hk hI;rcases hb s hI with⟨s',h1,h2,h3⟩|⟨t,h1,h2⟩
  ·obtain⟨t,h4,h5⟩:=ih s' (by omega) h2
   exact⟨t,loopW_eq.2 (.inl ⟨s',h1,h4⟩),h5⟩
  ·exact⟨t,loopW_eq.2 (.inr h1),h2⟩
theorem getI_nat{α:Type}{l:List α}{i:Nat}(h:i < l.length):getI l (i:Int)=some l[i]:=by
 unfold getI;rw[if_pos (by omega)];simp[h]
theorem getI_getD{α:Type}{l:List α}{i:Nat}(h:i < l.length)(d:α):getI l (i:Int)=some (l.getD i d):=by
 rw[getI_nat h]; simp[h]
theorem chk_ok{n:Int}(h0: -9223372036854775808≤n)(h1:n < 9223372036854775808):chk n=some n:=by
 unfold chk; rw[if_pos ⟨h0,h1⟩]
theorem setI_nat{α:Type}{l:List α}{i:Nat}(h:i < l.length)(y:α):setI l (i:Int) y=some (l.set i y):=by
 unfold setI;rw[if_pos (by omega),Int.toNat_natCast]
theorem remI_ok{a b:Int}(h:b≠0):remI a b=some (a.tmod b):=by unfold remI; rw[if_neg h]
theorem mkL_ok{α:Type}{b:Nat}{n:Int}{z:α}(k:Nat)(hn:n=k)(h:k*b≤1099511627776)(h2:k≤1099511627776):mkL b n z=some (List.replicate k z):=by
 subst hn;unfold mkL;rw[if_pos ⟨by omega,by omega,by omega⟩,Int.toNat_natCast]
theorem app_ok{α:Type}{b:Nat}{l l':List α}(h:(l.length+l'.length)*b≤1099511627776)(h2:l.length+l'.length≤1099511627776):app b l l'=some (l++l'):=by
 unfold app; rw[if_pos ⟨h,h2⟩]
def Tells(o:Option Bool)(P:Prop):Prop:=∃b,o=some b∧(b=true↔P)
theorem Tells.of_true{o:Option Bool}{P:Prop}(h:o=some true)(p:P):Tells o P:=⟨true,h,by simp[p]⟩
theorem Tells.of_false{o:Option Bool}{P:Prop}(h:o=some false)(p:¬P):Tells o P:=⟨false,h,by simp[p]⟩
theorem Tells.iff{o:Option Bool}{P Q:Prop}(h:Tells o P)(e:P↔Q):Tells o Q:=by
 obtain⟨b,h1,h2⟩:=h; exact⟨b,h1,h2.trans e⟩
theorem Tells.same{o o':Option Bool}{P:Prop}(h:Tells o P)(h':Tells o' P):∃b,o=some b∧o'=some b∧(b=true↔P):=by
 obtain⟨b,h1,h2⟩:=h;obtain⟨b',h3,h4⟩:=h';have:b=b':=by rw[Bool.eq_iff_iff]; exact h2.trans h4.symm
 exact⟨b,h1,by rw[this]; exact h3,h2⟩
theorem Tells.case{o:Option Bool}{P:Prop}(h:Tells o P):(o=some true∧P)∨(o=some false∧¬P):=by
 obtain⟨b,h1,h2⟩:=h;cases b with
 |true=> exact .inl ⟨h1,h2.1 rfl⟩
 |false=> exact .inr ⟨h1,fun p=> by have:=h2.2 p; cases this⟩
def IsP(p:Int):Prop:=p=2∨p=3∨p=5∨p=7
theorem IsP.range{p:Int}(h:IsP p):2≤p∧p≤7:=by unfold IsP at h; omega
def RowOK(p w:Int)(row:List Int):Prop:=(row.length:Int)=w∧∀x∈row,0≤x∧x < p
def TableOK(p c w:Int)(m:List (List Int)):Prop:=(m.length:Int)=c∧∀row∈m,RowOK p w row
theorem F54_eq(n lo hi:Int):F54 n lo hi=some (decide (lo≤n∧n≤hi)):=by
 unfold F54; by_cases h:lo≤n <;> simp[h]
theorem F56_eq(n lo hi:Int):F56 n lo hi=some (decide (lo≤n∧n≤hi)):=by
 unfold F56; by_cases h:lo≤n <;> simp[h]
theorem F78_tells(p:Int):Tells (F78 p) (IsP p):=by
 unfold F78 IsP;split
 ·exact .of_true rfl (by omega)
 split
 ·exact .of_true rfl (by omega)
 split
 ·exact .of_true rfl (by omega)
 ·exact⟨_,rfl,by simp; omega⟩
theorem F67_tells(p:Int):Tells (F67 p) (IsP p):=by
 unfold F67 IsP;split
 ·exact .of_true rfl (by omega)
 split
 ·exact .of_true rfl (by omega)
 split
 ·exact .of_true rfl (by omega)
 ·exact⟨_,rfl,by simp; omega⟩
theorem F79_2{p w:Int}{m:List (List Int)}(hp:2≤p∧p≤7){i:Nat}(hi:i < m.length)(hs:m[i].length≤1099511627776):
  ∃t,loopW (F79_2_S p m w i) 0=some t∧((t= .inl ()∧∀x∈m[i],0≤x∧x < p)∨(t= .inr false∧¬∀x∈m[i],0≤x∧x < p)):=by
 refine loopW_inv (fun j:Int=>(m[i].length - j).toNat) (fun j=>∃n:Nat,j=n∧n≤m[i].length∧∀k (hk:k < n) (h2:k < m[i].length),0≤m[i][k]∧m[i][k] < p) _ ⟨0,rfl,by omega,fun k hk=> by omega⟩ ?_;rintro _ ⟨n,rfl,hn,hall⟩;unfold F79_2_S;simp only[getI_nat hi,ob];by_cases hlt:(n:Int) < m[i].length
 ·have hnl:n < m[i].length:=by omega
  simp only[if_pos hlt,getI_nat hnl,ob,chk_ok (show(-9223372036854775808:Int)≤p - 1 by omega) (show p - 1 < 9223372036854775808 by omega),F54_eq];by_cases hx:0≤m[i][n]∧m[i][n]≤p - 1
  ·left
   refine⟨n+1,?_,⟨n+1,rfl,hnl,fun k hk h2=>?_⟩,by omega⟩
   ·simp only[hx,and_self,decide_true,if_true,chk_ok (show(-9223372036854775808:Int)≤(n:Int)+1 by omega) (show(n:Int)+1 < 9223372036854775808 by omega),ob]
   ·by_cases e:k=n
    ·subst e; omega
    ·exact hall k (by omega) h2
  ·right
   refine⟨.inr false,?_,.inr ⟨rfl,fun ha=> hx ?_⟩⟩
   ·simp[hx]
   ·have:=ha _ (List.getElem_mem hnl); omega
 ·right
  refine⟨.inl (),by simp only[if_neg hlt],.inl ⟨rfl,fun x hx=>?_⟩⟩;obtain⟨k,hk,rfl⟩:=List.getElem_of_mem hx;exact hall k (by omega) hk
theorem F79_tells{p c w:Int}{m:List (List Int)}(hp:2≤p∧p≤7)(hm:m.length≤1099511627776)(hs:∀r∈m,r.length≤1099511627776):Tells (F79 p m c w) (TableOK p c w m):=by
 unfold F79;by_cases hc:(m.length:Int)=c
 case neg=> rw[if_neg hc]; exact .of_false rfl fun h=> hc h.1
 rw[if_pos hc];obtain⟨t,h1,h2⟩:=forR_inv (B:=F79_1_B p m w) (D:=F79_1_D p m w) (hi:=m.length) m.length rfl (by omega) (fun i _=>∀k (hk:k < i) (h2:k < m.length),RowOK p w m[k]) (fun t=>(t= .inl ()∧∀r∈m,RowOK p w r)∨(t= .inr false∧¬∀r∈m,RowOK p w r)) (s:=()) (fun k hk=> by omega) (fun i _ hi hI=> by
  unfold F79_1_B;simp only[getI_nat hi,ob];by_cases hw:(m[i].length:Int)=w
  ·rw[if_pos hw]
   obtain⟨t,h1,h2⟩:=F79_2 (w:=w) hp hi (hs _ (List.getElem_mem hi));rw[h1];rcases h2 with⟨rfl,h2⟩|⟨rfl,h2⟩
   ·left
    refine⟨(),rfl,fun k hk h3=>?_⟩;by_cases e:k=i
    ·subst e; exact⟨hw,h2⟩
    ·exact hI k (by omega) h3
   ·right
    exact⟨_,rfl,.inr ⟨rfl,fun ha=> h2 (ha _ (List.getElem_mem hi)).2⟩⟩
  ·rw[if_neg hw]
   right;exact⟨_,rfl,.inr ⟨rfl,fun ha=> hw (ha _ (List.getElem_mem hi)).1⟩⟩) (fun _ hI=>⟨.inl (),rfl,.inl ⟨rfl,fun r hr=> by
    obtain⟨k,hk,rfl⟩:=List.getElem_of_mem hr;exact hI k hk hk⟩⟩)
 rw[h1];rcases h2 with⟨rfl,h2⟩|⟨rfl,h2⟩
 ·exact .of_true rfl ⟨hc,h2⟩
 ·exact .of_false rfl fun h=> h2 h.2
def addRow(p x:Int)(out row:List Int):List Int:=List.zipWith (fun o y=>(o+x*y).tmod p) out row
def linN(p:Int)(n:Nat)(v:List Int)(m:List (List Int)):Nat→List Int
 |0=> List.replicate n 0
 |i+1=> addRow p (v.getD i 0) (linN p n v m i) (m.getD i [])
def lin(p:Int)(n:Nat)(v:List Int)(m:List (List Int)):List Int:=linN p n v m v.length
structure LinOK (p:Int) (n:Nat) (v:List Int) (m:List (List Int)):Prop where
 hp:2≤p∧p≤7
 hv:∀x∈v,0≤x∧x < p
 hl:v.length≤m.length
 hr:∀l∈m,l.length=n∧∀y∈l,0≤y∧y < p
 hn:n≤1048576
 hvl:v.length≤1048576
theorem small_mul{p x y o:Int}(hp:2≤p∧p≤7)(hx:0≤x∧x < p)(hy:0≤y∧y < p)(ho:0≤o∧o < p):
  chk (x*y)=some (x*y)∧chk (o+x*y)=some (o+x*y)∧0≤(o+x*y).tmod p∧(o+x*y).tmod p < p:=by
 have h1:0≤x*y:=Int.mul_nonneg hx.1 hy.1;have h2:x*y≤6*6:=Int.mul_le_mul (by omega) (by omega) hy.1 (by omega);exact⟨chk_ok (by omega) (by omega),chk_ok (by omega) (by omega),Int.tmod_nonneg _ (by omega),Int.tmod_lt_of_pos _ (by omega)⟩
theorem addRow_len{p x:Int}{out row:List Int}(h:row.length=out.length):(addRow p x out row).length=out.length:=by simp[addRow,h]
theorem addRow_ok{p x:Int}(hp:2≤p∧p≤7)(hx:0≤x∧x < p){out row:List Int}(ho:∀o∈out,0≤o∧o < p)(hy:∀y∈row,0≤y∧y < p):∀o∈addRow p x out row,0≤o∧o < p:=by
 intro o hm;unfold addRow at hm;obtain⟨i,hi,rfl⟩:=List.getElem_of_mem hm;simp at hi ⊢;exact(small_mul hp hx (hy _ (List.getElem_mem (by omega))) (ho _ (List.getElem_mem (by omega)))).2.2
theorem linN_ok{p:Int}{n:Nat}{v:List Int}{m:List (List Int)}(H:LinOK p n v m):∀i,i≤v.length→(linN p n v m i).length=n∧∀o∈linN p n v m i,0≤o∧o < p:=by
 intro i;induction i with
 |zero=> intro _; refine⟨by simp[linN],fun o ho=>?_⟩; simp[linN]at ho; obtain⟨_,rfl⟩:=ho; have:=H.hp; omega
 |succ i ih=>
  intro hi;obtain⟨h1,h2⟩:=ih (by omega);have e1:v.getD i 0=v[i]:=by simp[show i < v.length by omega]
  have hm:i < m.length:=by have:=H.hl; omega
  have e2:m.getD i []=m[i]:=by simp[hm]
  have hr:=H.hr _ (List.getElem_mem hm);simp only[linN,e1,e2];exact⟨by rw[addRow_len (by rw[hr.1,h1]),h1],addRow_ok H.hp (H.hv _ (List.getElem_mem _)) h2 hr.2⟩
def upTo(p x:Int)(out row:List Int)(k:Nat):List Int:=(addRow p x out row).take k++out.drop k
theorem upTo_len{p x:Int}{out row:List Int}(h:row.length=out.length)(k:Nat)(hk:k≤out.length):(upTo p x out row k).length=out.length:=by
 simp[upTo,addRow_len h]; omega
theorem upTo_at{p x:Int}{out row:List Int}(h:row.length=out.length){k:Nat}(hk:k < out.length)(h2:k < (upTo p x out row k).length):(upTo p x out row k)[k]=out[k]:=by
 have e:(upTo p x out row k)[k]? =some out[k]:=by
  unfold upTo;rw[List.getElem?_append_right (by simp[addRow_len h]; omega)];simp[addRow_len h,Nat.min_eq_left (Nat.le_of_lt hk),hk]
 rw[List.getElem?_eq_getElem h2]at e;exact Option.some.inj e
theorem upTo_set{p x:Int}{out row:List Int}(h:row.length=out.length){k:Nat}(hk:k < out.length):
  (upTo p x out row k).set k ((out[k]+x*(row[k]'(by omega))).tmod p)=upTo p x out row (k+1):=by
 have hl:=addRow_len (p:=p) (x:=x) h;unfold upTo;rw[List.set_append_right _ _ (by simp[hl]; omega),List.take_succ_eq_append_getElem (by omega:k < (addRow p x out row).length)];have e1:((addRow p x out row).take k).length=k:=by simp[hl]; omega
 rw[e1,Nat.sub_self];simp[addRow];rw[List.drop_eq_getElem_cons hk];rfl
theorem upTo_zero{p x:Int}{out row:List Int}:upTo p x out row 0=out:=by simp[upTo]
theorem upTo_all{p x:Int}{out row:List Int}(h:row.length=out.length):upTo p x out row out.length=addRow p x out row:=by
 have hl:=addRow_len (p:=p) (x:=x) h;unfold upTo;rw[List.take_of_length_le (by omega),List.drop_of_length_le (by omega),List.append_nil]
theorem F80_eq{p:Int}{n:Nat}{v:List Int}{m:List (List Int)}(H:LinOK p n v m){w:Int}(hw:w=n):F80 p m v w=some (lin p n v m):=by
 have hn:=H.hn;have hvl:=H.hvl;have hlm:=H.hl;unfold F80;rw[mkL_ok n hw (by omega) (by omega),ob];obtain⟨t,h1,rfl⟩:=forR_inv (B:=F80_1_B p m v) (D:=F80_1_D p m v) (hi:=v.length) v.length rfl (by omega) (fun i s=> s=linN p n v m i) (fun t=> t=lin p n v m) (s:=List.replicate n 0) rfl (fun i s hi hI=> by
  subst hI;left;obtain⟨q1,q2⟩:=linN_ok H i (by omega);have hm:i < m.length:=by omega
  obtain⟨r1,r2⟩:=H.hr _ (List.getElem_mem hm);have hx:=H.hv _ (List.getElem_mem hi);have e1:v.getD i 0=v[i]:=by simp[hi]
  have e2:m.getD i []=m[i]:=by simp[hm]
  refine⟨_,?_,rfl⟩;unfold F80_1_B;have hlen:m[i].length=(linN p n v m i).length:=by omega
  obtain⟨t,h1,rfl⟩:=loopW_inv (S:=F80_2_S p m v i) (fun s=>(n - s.2).toNat) (fun s=>∃k:Nat,k≤n∧s=(upTo p v[i] (linN p n v m i) m[i] k,(k:Int))) (fun t=> t=linN p n v m (i+1)) (s:=(linN p n v m i,0)) ⟨0,by omega,by rw[upTo_zero]; rfl⟩ (by
   rintro _ ⟨k,hk,rfl⟩;unfold F80_2_S;have hul:=upTo_len (p:=p) (x:=v[i]) hlen k (by omega);simp only;by_cases hlt:(k:Int) < (upTo p v[i] (linN p n v m i) m[i] k).length
   ·rw[if_pos hlt]
    have hk1:k < (upTo p v[i] (linN p n v m i) m[i] k).length:=by omega
    have hk2:k < (linN p n v m i).length:=by omega
    have hk3:k < m[i].length:=by omega
    obtain⟨s1,s2,s3,s4⟩:=small_mul H.hp hx (r2 _ (List.getElem_mem hk3)) (q2 _ (List.getElem_mem hk2));have hp0:p≠0:=by have:=H.hp; omega
    left;refine⟨(upTo p v[i] (linN p n v m i) m[i] (k+1),((k+1:Nat):Int)),?_,⟨k+1,by omega,rfl⟩,by simp only; omega⟩;simp only[getI_nat hk1,upTo_at hlen hk2 hk1,getI_nat hi,getI_nat hm,getI_nat hk3,ob,s1,s2,remI_ok hp0,setI_nat hk1,upTo_set hlen hk2,chk_ok (show(-9223372036854775808:Int)≤(k:Int)+1 by omega) (show(k:Int)+1 < 9223372036854775808 by omega)];rfl
   ·rw[if_neg hlt]
    right;have hkn:k=(linN p n v m i).length:=by omega
    refine⟨_,rfl,?_⟩;rw[hkn,upTo_all hlen];simp only[linN,e1,e2])
  rw[h1];rfl) (fun s hI=>⟨_,rfl,hI⟩)
 rw[h1];rfl
theorem F119_2_eq{p:Int}{n:Nat}{v:List Int}{m:List (List Int)}(H:LinOK p n v m){i:Nat}(hi:i < v.length)(hm:i < m.length):
  forR 0 (m[i].length:Int) (F119_2_B p v m i v[i] m[i]) (F119_2_D p v m i v[i] m[i]) (linN p n v m i)=some (linN p n v m (i+1)):=by
 have hn:=H.hn;obtain⟨q1,q2⟩:=linN_ok H i (by omega);obtain⟨r1,r2⟩:=H.hr _ (List.getElem_mem hm);have hx:=H.hv _ (List.getElem_mem hi);have e1:v.getD i 0=v[i]:=by simp[hi]
 have e2:m.getD i []=m[i]:=by simp[hm]
 have hlen:m[i].length=(linN p n v m i).length:=by omega
 have hp0:p≠0:=by have:=H.hp; omega
 obtain⟨t,h1,rfl⟩:=forR_inv (B:=F119_2_B p v m i v[i] m[i]) (D:=F119_2_D p v m i v[i] m[i]) (hi:=m[i].length) m[i].length rfl (by omega) (fun k s=> s=upTo p v[i] (linN p n v m i) m[i] k) (fun t=> t=linN p n v m (i+1)) (s:=linN p n v m i) upTo_zero.symm (by
  intro k s hk hI;subst hI;left;have hul:=upTo_len (p:=p) (x:=v[i]) hlen k (by omega);have hk1:k < (upTo p v[i] (linN p n v m i) m[i] k).length:=by omega
  have hk2:k < (linN p n v m i).length:=by omega
  obtain⟨s1,s2,s3,s4⟩:=small_mul H.hp hx (r2 _ (List.getElem_mem hk)) (q2 _ (List.getElem_mem hk2));refine⟨_,?_,rfl⟩;unfold F119_2_B;simp only[getI_nat hk,getI_nat hk1,upTo_at hlen hk2 hk1,ob,s1,s2,remI_ok hp0,setI_nat hk1,upTo_set hlen hk2]) (by
  intro s hI;refine⟨s,rfl,?_⟩;rw[hI,hlen,upTo_all hlen];simp only[linN,e1,e2])
 exact h1
theorem F119_1_eq{p:Int}{n:Nat}{v:List Int}{m:List (List Int)}(H:LinOK p n v m)(i:Nat)(hi:i < v.length):F119_1_B p v m (i:Int) (linN p n v m i)=some (.inl (linN p n v m (i+1))):=by
 have hlm:=H.hl;have hm:i < m.length:=by omega
 unfold F119_1_B;rw[getI_nat hi,ob,getI_nat hm,ob,F119_2_eq H hi hm,ob]
theorem F119_eq{p:Int}{n:Nat}{v:List Int}{m:List (List Int)}(H:LinOK p n v m){w:Int}(hw:w=n):F119 p w v m=some (lin p n v m):=by
 have hn:=H.hn;have hvl:=H.hvl;have hs:v.length < 4611686018427387904:=by omega
 unfold F119;rw[mkL_ok n hw (by omega) (by omega),ob];obtain⟨t,h1,rfl⟩:=forR_inv (B:=F119_1_B p v m) (D:=F119_1_D p v m) (hi:=v.length) v.length rfl hs (fun i s=> s=linN p n v m i) (fun t=> t=lin p n v m) (s:=List.replicate n 0) rfl (by
  intro i s hi hI;subst hI;left;exact⟨_,F119_1_eq H i hi,rfl⟩) (fun s hI=>⟨s,by unfold F119_1_D; rfl,hI⟩)
 rw[h1,ob]
theorem F115_eq{l:List Int}{f:Int→Option Bool}(P:Int→Bool)(hl:l.length≤1099511627776)(hf:∀x∈l,f x=some (P x)):∃i:Int,F115 l f=some i∧(0≤i↔∃x∈l,P x=true):=by
 unfold F115;have hs:l.length < 4611686018427387904:=by omega
 obtain⟨t,h1,h2⟩:=forR_inv (B:=F115_1_B l f) (D:=F115_1_D l f) (hi:=l.length) l.length rfl hs (fun i _=>∀k (hk:k < i) (h2:k < l.length),P l[k]=false) (fun t=>(t= .inl ()∧∀x∈l,P x=false)∨∃i:Nat,t= .inr (i:Int)∧∃x∈l,P x=true) (s:=()) (fun k hk=> by omega) (by
  intro i _ hi hI;unfold F115_1_B;rw[getI_nat hi,ob,hf _ (List.getElem_mem hi),ob];cases hp:P l[i]with
  |true=> right; exact⟨_,rfl,.inr ⟨i,rfl,_,List.getElem_mem hi,hp⟩⟩
  |false=>
   left;refine⟨(),rfl,fun k hk h2=>?_⟩;by_cases e:k=i
   ·subst e; exact hp
   ·exact hI k (by omega) h2) (by
  intro _ hI;refine⟨.inl (),rfl,.inl ⟨rfl,fun x hx=>?_⟩⟩;obtain⟨k,hk,rfl⟩:=List.getElem_of_mem hx;exact hI k hk hk)
 rw[h1];rcases h2 with⟨rfl,h2⟩|⟨i,rfl,h2⟩
 ·exact⟨-1,rfl,⟨fun h=> by omega,fun⟨x,hx,hp⟩=> by rw[h2 x hx]at hp; cases hp⟩⟩
 ·exact⟨i,rfl,⟨fun _=> h2,fun _=> Int.natCast_nonneg i⟩⟩
theorem F82_eq{l:List Int}{f:Int→Option Bool}(P:Int→Bool)(hl:l.length≤1099511627776)(hf:∀x∈l,f x=some (P x)):F82 l f=some (l.any P):=by
 obtain⟨i,h1,h2⟩:=F115_eq P hl hf;unfold F82;rw[h1,ob];have:decide (0≤i)=l.any P:=by
  rw[Bool.eq_iff_iff];simp only[decide_eq_true_eq,List.any_eq_true];exact h2
 rw[this]
theorem F128_eq{l:List (List Int)}{f:List Int→Option Bool}(P:List Int→Bool)(hl:l.length≤1099511627776)(hf:∀x∈l,f x=some (P x)):∃i:Int,F128 l f=some i∧(0≤i↔∃x∈l,P x=true):=by
 unfold F128;have hs:l.length < 4611686018427387904:=by omega
 obtain⟨t,h1,h2⟩:=forR_inv (B:=F128_1_B l f) (D:=F128_1_D l f) (hi:=l.length) l.length rfl hs (fun i _=>∀k (hk:k < i) (h2:k < l.length),P l[k]=false) (fun t=>(t= .inl ()∧∀x∈l,P x=false)∨∃i:Nat,t= .inr (i:Int)∧∃x∈l,P x=true) (s:=()) (fun k hk=> by omega) (by
  intro i _ hi hI;unfold F128_1_B;rw[getI_nat hi,ob,hf _ (List.getElem_mem hi),ob];cases hp:P l[i]with
  |true=> right; exact⟨_,rfl,.inr ⟨i,rfl,_,List.getElem_mem hi,hp⟩⟩
  |false=>
   left;refine⟨(),rfl,fun k hk h2=>?_⟩;by_cases e:k=i
   ·subst e; exact hp
   ·exact hI k (by omega) h2) (by
  intro _ hI;refine⟨.inl (),rfl,.inl ⟨rfl,fun x hx=>?_⟩⟩;obtain⟨k,hk,rfl⟩:=List.getElem_of_mem hx;exact hI k hk hk)
 rw[h1];rcases h2 with⟨rfl,h2⟩|⟨i,rfl,h2⟩
 ·exact⟨-1,rfl,⟨fun h=> by omega,fun⟨x,hx,hp⟩=> by rw[h2 x hx]at hp; cases hp⟩⟩
 ·exact⟨i,rfl,⟨fun _=> h2,fun _=> Int.natCast_nonneg i⟩⟩
theorem F117_eq{l:List (List Int)}{f:List Int→Option Bool}(P:List Int→Bool)(hl:l.length≤1099511627776)(hf:∀x∈l,f x=some (P x)):F117 l f=some (l.any P):=by
 obtain⟨i,h1,h2⟩:=F128_eq P hl hf;unfold F117;rw[h1,ob];have:decide (0≤i)=l.any P:=by
  rw[Bool.eq_iff_iff];simp only[decide_eq_true_eq,List.any_eq_true];exact h2
 rw[this]
def rowB(p w:Int)(row:List Int):Bool:=decide ((row.length:Int)=w)&& row.all fun x=> decide (0≤x∧x < p)
theorem rowB_iff{p w:Int}{row:List Int}:rowB p w row=true↔RowOK p w row:=by
 unfold rowB RowOK;simp only[Bool.and_eq_true,decide_eq_true_eq,List.all_eq_true]
theorem F130_eq{p:Int}(hp:2≤p∧p≤7)(x:Int):F130 x p=some (!decide (0≤x∧x < p)):=by
 unfold F130;rw[chk_ok (by omega) (by omega),ob,F56_eq,ob]
 congr 3
 exact propext ⟨fun h=>⟨h.1,by omega⟩,fun h=>⟨h.1,by omega⟩⟩
theorem F129_eq{p w:Int}(hp:2≤p∧p≤7){l:List Int}(hl:l.length≤1099511627776):F129 p w l=some (rowB p w l):=by
 unfold F129 rowB;by_cases h:(l.length:Int)=w
 ·rw[if_pos h,F82_eq (fun x=> !decide (0≤x∧x < p)) hl (fun x _=> F130_eq hp x),ob]
  simp[h,List.not_any_eq_all_not]
 ·rw[if_neg h]; simp[h]
theorem F116_eq{p w:Int}(hp:2≤p∧p≤7){l:List Int}(hl:l.length≤1099511627776):F116 l p w=some (!rowB p w l):=by
 unfold F116; rw[F129_eq hp hl,ob]
theorem F90_eq{p w:Int}(hp:2≤p∧p≤7){m:List (List Int)}(hm:m.length≤1099511627776)(hs:∀r∈m,r.length≤1099511627776):F90 p w m=some (m.all (rowB p w)):=by
 unfold F90;rw[F117_eq (fun r=> !rowB p w r) hm (fun r hr=> F116_eq hp (hs r hr)),ob];simp[List.not_any_eq_all_not]
theorem F90_tells{p w:Int}(hp:2≤p∧p≤7){m:List (List Int)}(hm:m.length≤1099511627776)(hs:∀r∈m,r.length≤1099511627776):Tells (F90 p w m) (∀r∈m,RowOK p w r):=
 ⟨_,F90_eq hp hm hs,by simp only[List.all_eq_true,rowB_iff]⟩
theorem F92_tells{l:List Int}(hl:l.length≤1099511627776):Tells (F92 l) (∀x∈l,x=0):=by
 unfold F92;have h:F82 l (fun x=> F118 x)=some (l.any fun x=> !decide (x=0)):=F82_eq _ hl (fun x _=> rfl);rw[h,ob];exact⟨_,rfl,by simp[List.not_any_eq_all_not]⟩
theorem F81_tells{l:List Int}(hl:l.length≤1099511627776):∃i,F81 l=some i∧(0≤i↔¬∀x∈l,x=0):=by
 unfold F81;have hs:l.length < 4611686018427387904:=by omega
 obtain⟨t,h1,h2⟩:=forR_inv (B:=F81_1_B l) (D:=F81_1_D l) (hi:=l.length) l.length rfl hs (fun i _=>∀k (hk:k < i) (h2:k < l.length),l[k]=0) (fun t=>(t= .inl ()∧∀x∈l,x=0)∨∃i:Nat,t= .inr (i:Int)∧¬∀x∈l,x=0) (s:=()) (fun k hk=> by omega) (by
  intro i _ hi hI;unfold F81_1_B;rw[getI_nat hi,ob];by_cases hp:l[i]=0
  ·rw[if_pos hp]
   left;refine⟨(),rfl,fun k hk h2=>?_⟩;by_cases e:k=i
   ·subst e; exact hp
   ·exact hI k (by omega) h2
  ·rw[if_neg hp]
   right;exact⟨_,rfl,.inr ⟨i,rfl,fun ha=> hp (ha _ (List.getElem_mem hi))⟩⟩) (by
  intro _ hI;refine⟨.inl (),rfl,.inl ⟨rfl,fun x hx=>?_⟩⟩;obtain⟨k,hk,rfl⟩:=List.getElem_of_mem hx;exact hI k hk hk)
 rw[h1];rcases h2 with⟨rfl,h2⟩|⟨i,rfl,h2⟩
 ·exact⟨-1,rfl,⟨fun h=> by omega,fun h=> absurd h2 h⟩⟩
 ·exact⟨i,rfl,⟨fun _=> h2,fun _=> Int.natCast_nonneg i⟩⟩
structure SmallC (x:GComplex):Prop where
 d:x.Dims.length≤1048576
 m:x.Maps.length≤1048576
 r:∀m∈x.Maps,m.length≤1048576∧∀l∈m,l.length≤1048576
structure ShapeC (x:GComplex):Prop where
 p:IsP x.Prime
 dl:1≤x.Dims.length∧x.Dims.length≤6
 ml:x.Maps.length+1=x.Dims.length
 dims:∀d∈x.Dims,0≤d∧d≤8
def TabAt(x:GComplex)(k:Nat):Prop:=TableOK x.Prime (x.Dims.getD (k+1) 0) (x.Dims.getD k 0) (x.Maps.getD k [])
def SqAt(x:GComplex)(k:Nat):Prop:=∀row∈x.Maps.getD k [],∀y∈lin x.Prime (x.Dims.getD (k - 1) 0).toNat row (x.Maps.getD (k - 1) []),y=0
structure ValidC (x:GComplex):Prop extends ShapeC x where
 tab:∀k,k < x.Maps.length→TabAt x k
 sq:∀k,0 < k→k < x.Maps.length→SqAt x k
theorem lin_len{p:Int}{n:Nat}{v:List Int}{m:List (List Int)}(H:LinOK p n v m):(lin p n v m).length=n:=(linN_ok H _ (Nat.le_refl _)).1
theorem linOK_of{x:GComplex}(hs:ShapeC x){k:Nat}(h1:0 < k)(h2:k < x.Maps.length)(t1:TabAt x (k - 1))(t2:TabAt x k){row:List Int}(hr:row∈x.Maps.getD k []):
  LinOK x.Prime (x.Dims.getD (k - 1) 0).toNat row (x.Maps.getD (k - 1) [])∧0≤x.Dims.getD (k - 1) 0∧x.Dims.getD (k - 1) 0≤8:=by
 have hd:∀j,j < x.Dims.length→0≤x.Dims.getD j 0∧x.Dims.getD j 0≤8:=fun j hj=> by
  have:=hs.dims _ (List.getElem_mem hj);simpa[hj]using this
 have hml:=hs.ml;have d1:=hd (k - 1) (by omega);have d2:=hd k (by omega);obtain⟨q1,q2⟩:=t2.2 row hr;refine⟨⟨hs.p.range,q2,?_,fun l hl=>?_,?_,?_⟩,d1⟩
 ·have:=t1.1
  have e:k - 1+1=k:=by omega
  rw[e]at this;omega
 ·obtain⟨r1,r2⟩:=t1.2 l hl
  exact⟨by omega,r2⟩
 ·omega
 ·omega
theorem F86_eq{x:GComplex}(h:x.Dims.length≤1048576):F86 x=some ((x.Dims.length:Int) - 1):=by
 unfold F86; rw[chk_ok (by omega) (by omega),ob]
theorem mapsD{x:GComplex}{k:Nat}(h:k < x.Maps.length):x.Maps.getD k []=x.Maps[k]:=by simp[h]
theorem F39_3_eq{x:GComplex}(hs:ShapeC x){k:Nat}(h2:k < x.Maps.length)(t1:0 < k→TabAt x (k - 1))(t2:TabAt x k)(hsm:SmallC x):
  ∃t,loopW (F39_3_S x (k:Int)) 0=some t∧((t= .inl ()∧(0 < k→SqAt x k))∨(t= .inr false∧0 < k∧¬SqAt x k)):=by
 have hml:=hs.ml;have hdl:=hs.dl;have hk:=(hsm.r _ (List.getElem_mem h2)).1;refine loopW_inv (fun j:Int=>(x.Maps[k].length - j).toNat) (fun j=>∃n:Nat,j=n∧n≤x.Maps[k].length∧(0 < k→∀i (hi:i < n) (h3:i < x.Maps[k].length),∀y∈lin x.Prime (x.Dims.getD (k - 1) 0).toNat x.Maps[k][i] (x.Maps.getD (k - 1) []),y=0)) _ ⟨0,rfl,by omega,fun _ i hi=> by omega⟩ ?_;rintro _ ⟨n,rfl,hn,hall⟩;unfold F39_3_S;rw[getI_nat h2,ob];by_cases hlt:(n:Int) < x.Maps[k].length
 ·rw[if_pos hlt]
  have hnl:n < x.Maps[k].length:=by omega
  by_cases h0:0 < k
  ·rw[if_pos (by omega)]
   obtain⟨H,d0,d8⟩:=linOK_of hs h0 h2 (t1 h0) t2 (row:=x.Maps[k][n]) (by rw[mapsD h2]; exact List.getElem_mem hnl);have e1:((k:Int) - 1)=((k - 1:Nat):Int):=by omega
   rw[chk_ok (by omega) (by omega),ob,e1,getI_getD (show k - 1 < x.Maps.length by omega) [],ob,getI_nat hnl,ob,getI_getD (show k - 1 < x.Dims.length by omega) 0,ob,
    F80_eq H (by omega),ob]
   obtain⟨i,g1,g2⟩:=F81_tells (l:=lin x.Prime (x.Dims.getD (k - 1) 0).toNat x.Maps[k][n] (x.Maps.getD (k - 1) [])) (by rw[lin_len H]; omega);rw[g1,ob];by_cases hz:0≤i
   ·rw[if_pos hz]
    right;refine⟨_,rfl,.inr ⟨rfl,h0,fun ha=> g2.1 hz (ha _ (by rw[mapsD h2]; exact List.getElem_mem hnl))⟩⟩
   ·rw[if_neg hz]
    left;rw[chk_ok (by omega) (by omega),ob];refine⟨_,rfl,⟨n+1,rfl,hnl,fun _ i hi h3=>?_⟩,by omega⟩;by_cases e:i=n
    ·subst e
     exact Classical.byContradiction fun hq=> hz (g2.2 hq)
    ·exact hall h0 i (by omega) h3
  ·rw[if_neg (by omega)]
   right;exact⟨_,rfl,.inl ⟨rfl,fun h=> absurd h h0⟩⟩
 ·rw[if_neg hlt]
  right;refine⟨_,rfl,.inl ⟨rfl,fun h0 row hr=>?_⟩⟩;rw[mapsD h2]at hr;obtain⟨i,hi,rfl⟩:=List.getElem_of_mem hr;exact hall h0 i (by omega) hi
theorem F39_2_eq{x:GComplex}(hs:ShapeC x)(hsm:SmallC x):
  ∃t,forR 0 (x.Maps.length:Int) (F39_2_B x) (F39_2_D x) ()=some t∧((t= .inl ()∧(∀k,k < x.Maps.length→TabAt x k)∧∀k,0 < k→k < x.Maps.length→SqAt x k)∨(t= .inr false∧¬((∀k,k < x.Maps.length→TabAt x k)∧∀k,0 < k→k < x.Maps.length→SqAt x k))):=by
 have hml:=hs.ml;have hm:=hsm.m;have hlen:x.Maps.length < 4611686018427387904:=by omega
 refine forR_inv x.Maps.length rfl hlen (fun i _=>(∀k,k < i→TabAt x k)∧∀k,0 < k→k < i→SqAt x k) _ ⟨fun k hk=> by omega,fun k _ hk=> by omega⟩ ?_ ?_
 ·rintro i _ hi ⟨ht,hq⟩
  unfold F39_2_B;have e2:((i:Int)+1)=((i+1:Nat):Int):=by omega
  have hr:=hsm.r _ (List.getElem_mem hi);rw[getI_nat hi,ob,e2,getI_getD (show i+1 < x.Dims.length by omega) 0,ob,getI_getD (show i < x.Dims.length by omega) 0,ob];have hT:=F79_tells (p:=x.Prime) (c:=x.Dims.getD (i+1) 0) (w:=x.Dims.getD i 0) (m:=x.Maps[i]) hs.p.range (by omega) (fun r h=> by have:=hr.2 r h; omega);rcases hT.case with⟨h1,h2⟩|⟨h1,h2⟩
  ·rw[h1,ob,if_pos rfl]
   have hti:TabAt x i:=by unfold TabAt; rw[mapsD hi]; exact h2
   obtain⟨t,g1,g2⟩:=F39_3_eq hs hi (fun h0=> ht _ (by omega)) hti hsm;rw[g1,ob];rcases g2 with⟨rfl,g2⟩|⟨rfl,g0,g2⟩
   ·left
    refine⟨(),rfl,fun k hk=>?_,fun k h0 hk=>?_⟩
    ·by_cases e:k=i
     ·subst e; exact hti
     ·exact ht k (by omega)
    ·by_cases e:k=i
     ·subst e; exact g2 h0
     ·exact hq k h0 (by omega)
   ·right
    exact⟨_,rfl,.inr ⟨rfl,fun ha=> g2 (ha.2 i g0 hi)⟩⟩
  ·rw[h1,ob,if_neg Bool.false_ne_true]
   right;refine⟨_,rfl,.inr ⟨rfl,fun ha=> h2 ?_⟩⟩;have:=ha.1 i hi;unfold TabAt at this;rw[mapsD hi]at this;exact this
 ·rintro _ ⟨ht,hq⟩
  exact⟨.inl (),rfl,.inl ⟨rfl,ht,hq⟩⟩
theorem F39_1_eq{x:GComplex}(hsm:SmallC x):∃t,forR 0 (x.Dims.length:Int) (F39_1_B x) (F39_1_D x) ()=some t∧((t= .inl ()∧∀d∈x.Dims,0≤d∧d≤8)∨(t= .inr false∧¬∀d∈x.Dims,0≤d∧d≤8)):=by
 have hm:=hsm.d;have hlen:x.Dims.length < 4611686018427387904:=by omega
 refine forR_inv x.Dims.length rfl hlen (fun i _=>∀k (hk:k < i) (h2:k < x.Dims.length),0≤x.Dims[k]∧x.Dims[k]≤8) _ (fun k hk=> by omega) ?_ ?_
 ·rintro i _ hi hI
  unfold F39_1_B;rw[getI_nat hi,ob,F54_eq,ob];by_cases h:0≤x.Dims[i]∧x.Dims[i]≤8
  ·rw[if_pos (by simpa using h)]
   left;refine⟨(),rfl,fun k hk h2=>?_⟩;by_cases e:k=i
   ·subst e; exact h
   ·exact hI k (by omega) h2
  ·rw[if_neg (by simpa using h)]
   right;exact⟨_,rfl,.inr ⟨rfl,fun ha=> h (ha _ (List.getElem_mem hi))⟩⟩
 ·rintro _ hI
  refine⟨.inl (),rfl,.inl ⟨rfl,fun d hd=>?_⟩⟩;obtain⟨k,hk,rfl⟩:=List.getElem_of_mem hd;exact hI k hk hk
theorem F39_tells{x:GComplex}(hsm:SmallC x):Tells (F39 x) (ValidC x):=by
 have hd:=hsm.d;unfold F39;rcases(F78_tells x.Prime).case with⟨h1,hp⟩|⟨h1,hp⟩
 case inr=> rw[h1,ob,if_neg Bool.false_ne_true]; exact .of_false rfl fun h=> hp h.p
 rw[h1,ob,if_pos rfl];by_cases c1:(x.Dims.length:Int) < 1
 ·rw[if_pos c1]; exact .of_false rfl fun h=> by have:=h.dl; omega
 rw[if_neg c1];by_cases c2:6 < (x.Dims.length:Int)
 ·rw[if_pos c2]; exact .of_false rfl fun h=> by have:=h.dl; omega
 rw[if_neg c2,chk_ok (by omega) (by omega),ob];by_cases c3:(x.Maps.length:Int)=(x.Dims.length:Int) - 1
 case neg=> rw[if_neg c3]; exact .of_false rfl fun h=> by have:=h.ml; omega
 rw[if_pos c3];obtain⟨t,g1,g2⟩:=F39_1_eq hsm;rw[g1,ob];rcases g2 with⟨rfl,g2⟩|⟨rfl,g2⟩
 case inr=> exact .of_false rfl fun h=> g2 h.dims
 have hs:ShapeC x:=⟨hp,by omega,by omega,g2⟩;obtain⟨t,k1,k2⟩:=F39_2_eq hs hsm;simp only;rw[k1,ob];rcases k2 with⟨rfl,k2,k3⟩|⟨rfl,k2⟩
 ·exact .of_true rfl ⟨hs,k2,k3⟩
 ·exact .of_false rfl fun h=> k2 ⟨h.tab,h.sq⟩
theorem F42_1_eq{x:GComplex}(hs:ShapeC x)(hsm:SmallC x):
  ∃t,forR 0 (x.Maps.length:Int) (F42_1_B x) (F42_1_D x) ()=some t∧((t= .inl ()∧∀k,k < x.Maps.length→TabAt x k)∨(t= .inr false∧¬∀k,k < x.Maps.length→TabAt x k)):=by
 have hml:=hs.ml;have hm:=hsm.m;have hlen:x.Maps.length < 4611686018427387904:=by omega
 refine forR_inv x.Maps.length rfl hlen (fun i _=>∀k,k < i→TabAt x k) _ (fun k hk=> by omega) ?_ ?_
 ·rintro i _ hi ht
  unfold F42_1_B;have e2:((i:Int)+1)=((i+1:Nat):Int):=by omega
  have hr:=hsm.r _ (List.getElem_mem hi);rw[getI_nat hi,ob,e2,getI_getD (show i+1 < x.Dims.length by omega) 0,ob];have hti:TabAt x i↔((x.Maps[i].length:Int)=x.Dims.getD (i+1) 0∧∀r∈x.Maps[i],RowOK x.Prime (x.Dims.getD i 0) r):=by unfold TabAt; rw[mapsD hi]; rfl
  by_cases hc:(x.Maps[i].length:Int)=x.Dims.getD (i+1) 0
  ·rw[if_pos hc,getI_getD (show i < x.Dims.length by omega) 0,ob]
   have hT:=F90_tells (p:=x.Prime) (w:=x.Dims.getD i 0) (m:=x.Maps[i]) hs.p.range (by omega) (fun r h=> by have:=hr.2 r h; omega);rcases hT.case with⟨h1,h2⟩|⟨h1,h2⟩
   ·rw[h1,ob,if_pos rfl]
    left;refine⟨(),rfl,fun k hk=>?_⟩;by_cases e:k=i
    ·subst e; exact hti.2 ⟨hc,h2⟩
    ·exact ht k (by omega)
   ·rw[h1,ob,if_neg Bool.false_ne_true]
    right;exact⟨_,rfl,.inr ⟨rfl,fun ha=> h2 (hti.1 (ha i hi)).2⟩⟩
  ·rw[if_neg hc]
   right;exact⟨_,rfl,.inr ⟨rfl,fun ha=> hc (hti.1 (ha i hi)).1⟩⟩
 ·rintro _ ht
  exact⟨.inl (),rfl,.inl ⟨rfl,ht⟩⟩
theorem F91_eq{x:GComplex}(hs:ShapeC x)(hsm:SmallC x){k:Nat}(h1:0 < k)(h2:k < x.Maps.length)(t1:TabAt x (k - 1))(t2:TabAt x k){row:List Int}(hr:row∈x.Maps.getD k []):
  F91 x (k:Int) row=some (lin x.Prime (x.Dims.getD (k - 1) 0).toNat row (x.Maps.getD (k - 1) [])):=by
 have hml:=hs.ml;have hdl:=hs.dl;obtain⟨H,d0,d8⟩:=linOK_of hs h1 h2 t1 t2 hr;unfold F91;have e1:((k:Int) - 1)=((k - 1:Nat):Int):=by omega
 rw[if_neg (by omega),F86_eq hsm.d,ob,if_neg (by omega),chk_ok (by omega) (by omega),ob,e1,getI_getD (show k - 1 < x.Dims.length by omega) 0,ob,getI_getD (show k - 1 < x.Maps.length by omega) [],ob,
  F119_eq H (by omega),ob]
theorem F42_3_eq{x:GComplex}(hs:ShapeC x)(hsm:SmallC x)(ht:∀k,k < x.Maps.length→TabAt x k){n:Nat}(hn:2≤n)(h2:n - 1 < x.Maps.length):
  ∃t,forR 0 ((x.Maps[n - 1].length:Nat):Int) (F42_3_B x (n:Int) x.Maps[n - 1]) (F42_3_D x (n:Int) x.Maps[n - 1]) ()=some t∧((t= .inl ()∧SqAt x (n - 1))∨(t= .inr false∧¬SqAt x (n - 1))):=by
 have hml:=hs.ml;have hdl:=hs.dl;have hk:=(hsm.r _ (List.getElem_mem h2)).1;have hlen:x.Maps[n - 1].length < 4611686018427387904:=by omega
 refine forR_inv x.Maps[n - 1].length rfl hlen (fun i _=>∀j (hj:j < i) (h3:j < x.Maps[n - 1].length),∀y∈lin x.Prime (x.Dims.getD (n - 1 - 1) 0).toNat x.Maps[n - 1][j] (x.Maps.getD (n - 1 - 1) []),y=0) _ (fun j hj=> by omega) ?_ ?_
 ·rintro i _ hi hI
  unfold F42_3_B;have hrow:x.Maps[n - 1][i]∈x.Maps.getD (n - 1) []:=by rw[mapsD h2]; exact List.getElem_mem hi
  have e1:((n:Int) - 1)=((n - 1:Nat):Int):=by omega
  have t1:=ht (n - 1 - 1) (by omega);have t2:=ht (n - 1) h2;obtain⟨H,d0,d8⟩:=linOK_of hs (by omega) h2 t1 t2 hrow;rw[getI_nat hi,ob,chk_ok (by omega) (by omega),ob,e1,F91_eq hs hsm (by omega) h2 t1 t2 hrow,ob];rcases(F92_tells (l:=lin x.Prime (x.Dims.getD (n - 1 - 1) 0).toNat x.Maps[n - 1][i] (x.Maps.getD (n - 1 - 1) [])) (by rw[lin_len H]; omega)).case with⟨g1,g2⟩|⟨g1,g2⟩
  ·rw[g1,ob,if_pos rfl]
   left;refine⟨(),rfl,fun j hj h3=>?_⟩;by_cases e:j=i
   ·subst e; exact g2
   ·exact hI j (by omega) h3
  ·rw[g1,ob,if_neg Bool.false_ne_true]
   right;exact⟨_,rfl,.inr ⟨rfl,fun ha=> g2 (ha _ hrow)⟩⟩
 ·rintro _ hI
  refine⟨.inl (),rfl,.inl ⟨rfl,fun row hr=>?_⟩⟩;rw[mapsD h2]at hr;obtain⟨j,hj,rfl⟩:=List.getElem_of_mem hr;exact hI j hj hj
theorem F42_2_eq{x:GComplex}(hs:ShapeC x)(hsm:SmallC x)(ht:∀k,k < x.Maps.length→TabAt x k):
  ∃t,loopW (F42_2_S x) 2=some t∧((t= .inl ()∧∀k,0 < k→k < x.Maps.length→SqAt x k)∨(t= .inr false∧¬∀k,0 < k→k < x.Maps.length→SqAt x k)):=by
 have hml:=hs.ml;have hdl:=hs.dl;refine loopW_inv (fun j:Int=>(x.Dims.length+2 - j).toNat) (fun j=>∃n:Nat,j=n∧2≤n∧n≤x.Dims.length+1∧∀k,0 < k→k < n - 1→k < x.Maps.length→SqAt x k) _ ⟨2,rfl,by omega,by omega,fun k h0 hk=> by omega⟩ ?_;rintro _ ⟨n,rfl,hn,hn2,hall⟩;unfold F42_2_S;rw[F86_eq hsm.d,ob];by_cases hlt:(n:Int)≤(x.Dims.length:Int) - 1
 ·rw[if_pos hlt]
  have e1:((n:Int) - 1)=((n - 1:Nat):Int):=by omega
  have h2:n - 1 < x.Maps.length:=by omega
  rw[chk_ok (by omega) (by omega),ob,e1,getI_nat h2,ob];obtain⟨t,g1,g2⟩:=F42_3_eq hs hsm ht hn h2;rw[g1,ob];rcases g2 with⟨rfl,g2⟩|⟨rfl,g2⟩
  ·left
   refine⟨((n+1:Nat):Int),?_,⟨n+1,rfl,by omega,by omega,fun k h0 hk h3=>?_⟩,by omega⟩
   ·simp only
    rw[chk_ok (by omega) (by omega),ob];rfl
   ·by_cases e:k=n - 1
    ·subst e; exact g2
    ·exact hall k h0 (by omega) h3
  ·right
   exact⟨_,rfl,.inr ⟨rfl,fun ha=> g2 (ha _ (by omega) h2)⟩⟩
 ·rw[if_neg hlt]
  right;exact⟨_,rfl,.inl ⟨rfl,fun k h0 hk=> hall k h0 (by omega) hk⟩⟩
theorem F42_tells{x:GComplex}(hsm:SmallC x):Tells (F42 x) (ValidC x):=by
 have hd:=hsm.d;unfold F42;rcases(F67_tells x.Prime).case with⟨h1,hp⟩|⟨h1,hp⟩
 case inr=> rw[h1,ob,if_neg Bool.false_ne_true]; exact .of_false rfl fun h=> hp h.p
 rw[h1,ob,if_pos rfl,F86_eq hd,ob,F56_eq,ob];by_cases c1:0≤(x.Dims.length:Int) - 1∧(x.Dims.length:Int) - 1≤5
 case neg=> rw[if_neg (by simpa using c1)]; exact .of_false rfl fun h=> by have:=h.dl; omega
 rw[if_pos (by simpa using c1)];by_cases c3:(x.Maps.length:Int)=(x.Dims.length:Int) - 1
 case neg=> rw[if_neg c3]; exact .of_false rfl fun h=> by have:=h.ml; omega
 rw[if_pos c3];have h88:F82 x.Dims (fun y=> F88 y)=some (x.Dims.any fun d=> !decide (0≤d∧d≤8)):=F82_eq _ (by omega) (fun d _=> by unfold F88; rw[F56_eq,ob]);rw[h88,ob];have hany:(x.Dims.any fun d=> !decide (0≤d∧d≤8))=true↔¬∀d∈x.Dims,0≤d∧d≤8:=by
  simp only[List.any_eq_true,Bool.not_eq_true',decide_eq_false_iff_not];constructor
  ·rintro⟨d,h1,h2⟩ ha; exact h2 (ha d h1)
  ·intro hn
   exact Classical.byContradiction fun hc=> hn fun d hd=> Classical.byContradiction fun h=> hc ⟨d,hd,h⟩
 by_cases c4:(x.Dims.any fun d=> !decide (0≤d∧d≤8))=true
 ·rw[if_pos c4]; exact .of_false rfl fun h=> hany.1 c4 h.dims
 rw[if_neg c4];have hdims:∀d∈x.Dims,0≤d∧d≤8:=Classical.byContradiction fun hc=> c4 (hany.2 hc);have hs:ShapeC x:=⟨hp,by omega,by omega,hdims⟩;obtain⟨t,g1,g2⟩:=F42_1_eq hs hsm;rw[g1,ob];rcases g2 with⟨rfl,ht⟩|⟨rfl,ht⟩
 case inr=> exact .of_false rfl fun h=> ht h.tab
 obtain⟨t,k1,k2⟩:=F42_2_eq hs hsm ht;simp only;rw[k1,ob];rcases k2 with⟨rfl,k2⟩|⟨rfl,k2⟩
 ·exact .of_true rfl ⟨hs,ht,k2⟩
 ·exact .of_false rfl fun h=> k2 h.sq
structure SmallF (x:GFiltered):Prop where
 c:SmallC x.Complex
 l:x.Levels.length≤1048576
 r:∀q∈x.Levels,q.length≤1048576
def numAt(ms:List (List (List Int)))(k i j:Nat):Int:=((ms.getD k []).getD i []).getD j 0
def InT(ms:List (List (List Int)))(k i j:Nat):Prop:=k < ms.length∧i < (ms.getD k []).length∧j < ((ms.getD k []).getD i []).length
theorem getD_mem{α:Type}{l:List α}{i:Nat}(h:i < l.length)(d:α):l.getD i d∈l:=by
 rw[List.getD_eq_getElem?_getD,List.getElem?_eq_getElem h]; exact List.getElem_mem h
theorem F76_eq{x:GComplex}(hs:x.Dims.length≤1048576){k:Nat}(h:k+1 < x.Dims.length)(hm:k < x.Maps.length):F76 x ((k+1:Nat):Int)=some (x.Maps.getD k []):=by
 unfold F76;have e:(((k+1:Nat):Int) - 1)=(k:Int):=by omega
 rw[chk_ok (by omega) (by omega),ob,F54_eq,ob,if_pos (by simp; omega),chk_ok (by omega) (by omega),ob,e,getI_getD hm [],ob]
abbrev Long0(n:Int):Prop:= -9223372036854775808≤n∧n≤9223372036854775807
abbrev LongL{α:Type}(L:α→Prop)(l:List α):Prop:=l.length≤9223372036854775807∧∀y∈l,L y
structure LongC (x:GComplex):Prop where
 p:Long0 x.Prime
 d:LongL Long0 x.Dims
 m:LongL (LongL (LongL Long0)) x.Maps
theorem F43_eq{a:List Int}(ha:a.length≤9223372036854775807){s:Int}(h0:0≤s)(h1:s≤1048576):∃z,F43 a s=some z∧(z < 0∨(0≤z∧z≤1048576∧a.length≤1048576)):=by
 unfold F43;rw[chk_ok (by omega) (by omega),ob];by_cases h:s - (a.length:Int) < 0
 ·rw[if_pos h]; exact⟨_,rfl,.inl (by decide)⟩
 ·rw[if_neg h]; exact⟨_,rfl,.inr ⟨by omega,by omega,by omega⟩⟩
theorem sz_loop{α:Type}{l:List α}(S:α→Prop){B:Int→Int→Option (Int⊕(Int⊕Int))}{D:Int→Int→Option (Int⊕Int)}(hl:l.length≤1048576)
  (hB:∀ (i:Nat) (hi:i < l.length) (v:Int),0≤v→v≤1048576→(∃z,B i v=some (.inl z)∧0≤z∧z≤1048576∧S l[i])∨B i v=some (.inr (.inr (-1)))) (hD:∀v,D (l.length:Int) v=some (.inl v)∨∀i v,D i v=some (.inl v)) (hD':∀i v,D i v=some (.inl v))
  {s:Int} (h0:0≤s) (h1:s≤1048576):∃t,forR 0 (l.length:Int) B D s=some t∧((∃z,t= .inl z∧0≤z∧z≤1048576∧∀y∈l,S y)∨t= .inr (-1)):=by
 have hlen:l.length < 4611686018427387904:=by omega
 refine forR_inv l.length rfl hlen (fun i v=> 0≤v∧v≤1048576∧∀k (h:k < l.length),k < i→S l[k]) _ ⟨h0,h1,fun k _ hk=> by omega⟩ ?_ ?_
 ·rintro i v hi ⟨p0,p1,p2⟩
  rcases hB i hi v p0 p1 with⟨z,q1,q2,q3,q4⟩|q
  ·left
   refine⟨z,q1,q2,q3,fun k h hk=>?_⟩;by_cases e:k=i
   ·subst e; exact q4
   ·exact p2 k h (by omega)
  ·right
   exact⟨_,q,.inr rfl⟩
 ·rintro v ⟨p0,p1,p2⟩
  refine⟨_,hD' _ _,.inl ⟨v,rfl,p0,p1,fun y hy=>?_⟩⟩;obtain⟨k,hk,rfl⟩:=List.getElem_of_mem hy;exact p2 k hk hk
theorem F44_eq{a:List (List Int)}(ha:LongL (LongL Long0) a){s:Int}(h0:0≤s)(h1:s≤1048576):∃z,F44 a s=some z∧(z < 0∨(0≤z∧z≤1048576∧a.length≤1048576∧∀r∈a,r.length≤1048576)):=by
 have hal:=ha.1;unfold F44;rw[chk_ok (by omega) (by omega),ob];by_cases h:s - (a.length:Int) < 0
 ·rw[if_pos h]; exact⟨_,rfl,.inl (by decide)⟩
 ·rw[if_neg h]
  obtain⟨t,g1,g2⟩:=sz_loop (l:=a) (B:=F44_1_B a) (D:=F44_1_D a) (fun r=> r.length≤1048576) (by omega) (fun i hi v v0 v1=> by
   unfold F44_1_B;obtain⟨z,k1,k2⟩:=F43_eq (ha.2 _ (List.getElem_mem hi)).1 v0 v1;rw[getI_nat hi,ob,k1,ob];rcases k2 with k2|⟨k2,k3,k4⟩
   ·rw[if_pos k2]; exact .inr rfl
   ·rw[if_neg (by omega)]; exact .inl ⟨z,rfl,k2,k3,k4⟩) (fun v=> .inl rfl) (fun i v=> rfl) (show 0≤s - (a.length:Int) by omega) (by omega)
  rw[g1,ob];rcases g2 with⟨z,rfl,q1,q2,q3⟩|rfl
  ·exact⟨z,rfl,.inr ⟨q1,q2,by omega,q3⟩⟩
  ·exact⟨_,rfl,.inl (by decide)⟩
theorem F11_eq{a:List (List (List Int))}(ha:LongL (LongL (LongL Long0)) a){s:Int}(h0:0≤s)(h1:s≤1048576):∃z,F11 a s=some z∧(z < 0∨(0≤z∧z≤1048576∧a.length≤1048576∧∀m∈a,m.length≤1048576∧∀r∈m,r.length≤1048576)):=by
 have hal:=ha.1;unfold F11;rw[chk_ok (by omega) (by omega),ob];by_cases h:s - (a.length:Int) < 0
 ·rw[if_pos h]; exact⟨_,rfl,.inl (by decide)⟩
 ·rw[if_neg h]
  obtain⟨t,g1,g2⟩:=sz_loop (l:=a) (B:=F11_1_B a) (D:=F11_1_D a) (fun m=> m.length≤1048576∧∀r∈m,r.length≤1048576) (by omega) (fun i hi v v0 v1=> by
   unfold F11_1_B;obtain⟨z,k1,k2⟩:=F44_eq (ha.2 _ (List.getElem_mem hi)) v0 v1;rw[getI_nat hi,ob,k1,ob];rcases k2 with k2|⟨k2,k3,k4⟩
   ·rw[if_pos k2]; exact .inr rfl
   ·rw[if_neg (by omega)]; exact .inl ⟨z,rfl,k2,k3,k4⟩) (fun v=> .inl rfl) (fun i v=> rfl) (show 0≤s - (a.length:Int) by omega) (by omega)
  rw[g1,ob];rcases g2 with⟨z,rfl,q1,q2,q3⟩|rfl
  ·exact⟨z,rfl,.inr ⟨q1,q2,by omega,q3⟩⟩
  ·exact⟨_,rfl,.inl (by decide)⟩
theorem F10_eq{x:GComplex}(hx:LongC x){s:Int}(h0:0≤s)(h1:s≤1048576):∃z,F10 x s=some z∧(z < 0∨(0≤z∧z≤1048576∧SmallC x)):=by
 unfold F10;obtain⟨z,k1,k2⟩:=F43_eq hx.d.1 h0 h1;rw[k1,ob];rcases k2 with k2|⟨k2,k3,k4⟩
 ·rw[if_pos k2]; exact⟨_,rfl,.inl (by decide)⟩
 rw[if_neg (by omega)];obtain⟨y,l1,l2⟩:=F11_eq hx.m k2 k3;rw[l1,ob];rcases l2 with l2|⟨l2,l3,l4,l5⟩
 ·rw[if_pos l2]; exact⟨_,rfl,.inl (by decide)⟩
 rw[if_neg (by omega)];exact⟨y,rfl,.inr ⟨l2,l3,⟨k4,l4,l5⟩⟩⟩
theorem to_loop{α:Type}{l:List α}{B:Int→List α→Option (List α⊕List α)}{D:Int→List α→Option (List α)}(hl:l.length≤1048576)
  (hB:∀ (i:Nat) (hi:i < l.length) (s:List α),s.length=l.length→B i s=some (.inl (s.set i l[i]))) (hD:∀i s,D i s=some s) {s:List α} (hs:s.length=l.length):forR 0 (l.length:Int) B D s=some l:=by
 have hlen:l.length < 4611686018427387904:=by omega
 obtain⟨t,h1,h2⟩:=forR_inv (B:=B) (D:=D) l.length rfl hlen (fun i s=> s.length=l.length∧∀k,k < i→s[k]? =l[k]?) (fun t=> t=l) (s:=s) ⟨hs,fun k hk=> by omega⟩ (by
  rintro i s hi ⟨p1,p2⟩;left;refine⟨_,hB i hi s p1,by rw[List.length_set]; exact p1,fun k hk=>?_⟩;rw[List.getElem?_set];by_cases e:i=k
  ·subst e; rw[if_pos rfl,if_pos (by omega)]; simp[hi]
  ·rw[if_neg e]; exact p2 k (by omega)) (by
  rintro s ⟨p1,p2⟩;refine⟨s,hD _ _,?_⟩;apply List.ext_getElem?;intro k;by_cases hk:k < l.length
  ·exact p2 k hk
  ·rw[List.getElem?_eq_none (by omega),List.getElem?_eq_none (by omega)])
 rw[h1,h2]
theorem F47_eq{l:List Int}(h:l.length≤1048576):F47 l=some l:=by
 unfold F47;rw[mkL_ok l.length rfl (by omega) (by omega),ob,to_loop (l:=l) (B:=F47_1_B l) (D:=F47_1_D l) h (fun i hi s hs=> by
  unfold F47_1_B;rw[getI_nat hi,ob,getI_nat (show i < s.length by omega),ob,setI_nat (by omega),ob]) (fun i s=> rfl) (List.length_replicate ..),ob]
theorem F48_eq{l:List (List Int)}(h:l.length≤1048576)(h2:∀r∈l,r.length≤1048576):F48 l=some l:=by
 unfold F48;rw[mkL_ok l.length rfl (by omega) (by omega),ob,to_loop (l:=l) (B:=F48_1_B l) (D:=F48_1_D l) h (fun i hi s hs=> by
  unfold F48_1_B;rw[getI_nat hi,ob,F47_eq (h2 _ (List.getElem_mem hi)),ob,getI_nat (show i < s.length by omega),ob,setI_nat (by omega),ob]) (fun i s=> rfl) (List.length_replicate ..),ob]
theorem F13_eq{l:List (List (List Int))}(h:l.length≤1048576)(h2:∀m∈l,m.length≤1048576∧∀r∈m,r.length≤1048576):F13 l=some l:=by
 unfold F13;rw[mkL_ok l.length rfl (by omega) (by omega),ob,to_loop (l:=l) (B:=F13_1_B l) (D:=F13_1_D l) h (fun i hi s hs=> by
  unfold F13_1_B;rw[getI_nat hi,ob,F48_eq (h2 _ (List.getElem_mem hi)).1 (h2 _ (List.getElem_mem hi)).2,ob,getI_nat (show i < s.length by omega),ob,setI_nat (by omega),ob]) (fun i s=> rfl) (List.length_replicate ..),ob]
theorem F12_eq{x:GComplex}(h:SmallC x):F12 x=some x:=by
 unfold F12;rw[F47_eq h.d,ob,F13_eq h.m h.r,ob]
theorem eq_loop{n:Nat}{B:Int→Unit→Option (Unit⊕(Unit⊕Bool))}{D:Int→Unit→Option (Unit⊕Bool)}(hn:n≤1048576)(hB:∀ (i:Nat) (s:Unit),i < n→B i s=some (.inl ()))(hD:∀i s,D i s=some (.inl ())):forR 0 (n:Int) B D ()=some (.inl ()):=by
 have hlen:n < 4611686018427387904:=by omega
 obtain⟨t,h1,h2⟩:=forR_inv (B:=B) (D:=D) n rfl hlen (fun _ _=> True) (fun t=> t= .inl ()) (s:=()) trivial (fun i s hi _=> .inl ⟨_,hB i s hi,trivial⟩) (fun s _=>⟨_,hD _ _,rfl⟩);rw[h1,h2]
theorem F30_same{a:List Int}(h:a.length≤1048576):F30 a a=some true:=by
 unfold F30;rw[if_pos rfl,eq_loop (B:=F30_1_B a a) (D:=F30_1_D a a) h (fun i s hi=> by unfold F30_1_B; rw[getI_nat hi,ob,ob,if_pos rfl]) (fun i s=> rfl),ob]
theorem F51_same{a:List (List Int)}(h:a.length≤1048576)(h2:∀r∈a,r.length≤1048576):F51 a a=some true:=by
 unfold F51;rw[if_pos rfl,eq_loop (B:=F51_1_B a a) (D:=F51_1_D a a) h (fun i s hi=> by unfold F51_1_B; rw[getI_nat hi,ob,ob,F30_same (h2 _ (List.getElem_mem hi)),ob,if_pos rfl]) (fun i s=> rfl),ob]
theorem F17_same{a:List (List (List Int))}(h:a.length≤1048576)(h2:∀m∈a,m.length≤1048576∧∀r∈m,r.length≤1048576):F17 a a=some true:=by
 unfold F17;rw[if_pos rfl,eq_loop (B:=F17_1_B a a) (D:=F17_1_D a a) h (fun i s hi=> by unfold F17_1_B; rw[getI_nat hi,ob,ob,F51_same (h2 _ (List.getElem_mem hi)).1 (h2 _ (List.getElem_mem hi)).2,ob,if_pos rfl]) (fun i s=> rfl),ob]
theorem F16_same{x:GComplex}(h:SmallC x):F16 x x=some true:=by
 unfold F16;rw[if_pos rfl,F30_same h.d,ob,if_pos rfl,F17_same h.m h.r,ob,if_pos rfl]
structure SmallT (ms:List (List (List Int))):Prop where
 m:ms.length≤1048576
 r:∀m∈ms,m.length≤1048576∧∀r∈m,r.length≤1048576
def TabM(x:GComplex)(ms:List (List (List Int)))(k:Nat):Prop:=TableOK x.Prime (x.Dims.getD (k+1) 0) (x.Dims.getD k 0) (ms.getD k [])
structure MapsOK (x:GComplex) (ms:List (List (List Int))):Prop where
 v:ValidC x
 l:ms.length=x.Maps.length
 t:∀k,k < ms.length→TabM x ms k
theorem F93_eq(p c w:Int)(m:List (List Int)):F93 p m c w=F79 p m c w:=rfl
theorem F45_1_eq{x:GComplex}{ms:List (List (List Int))}(hv:ValidC x)(hs:SmallT ms)(hl:ms.length=x.Maps.length):
  ∃t,forR 0 (ms.length:Int) (F45_1_B x ms) (F45_1_D x ms) ()=some t∧((t= .inl ()∧∀k,k < ms.length→TabM x ms k)∨(t= .inr 2∧¬∀k,k < ms.length→TabM x ms k)):=by
 have hm:=hs.m;have hlen:ms.length < 4611686018427387904:=by omega
 have hml:=hv.ml;have hdl:=hv.dl;have hp:=hv.p.range;refine forR_inv ms.length rfl hlen (fun i _=>∀k,k < i→TabM x ms k) _ (fun k hk=> by omega) ?_ ?_
 ·rintro i _ hi ht
  unfold F45_1_B;have hmem:=getD_mem hi [];have h1:=(hs.r _ hmem).1;have hT:=F79_tells (p:=x.Prime) (c:=x.Dims.getD (i+1) 0) (w:=x.Dims.getD i 0) (m:=ms.getD i []) hp (by omega) (fun r hr=> by have:=(hs.r _ hmem).2 r hr; omega);have e1:getI x.Dims ((i:Int)+1)=some (x.Dims.getD (i+1) 0):=by
   have:=getI_getD (show i+1 < x.Dims.length by omega) 0;exact this
  rw[getI_getD hi [],ob,e1,ob,getI_getD (show i < x.Dims.length by omega) 0,ob,F93_eq];rcases hT.case with⟨h2,h3⟩|⟨h2,h3⟩
  ·rw[h2,ob,if_pos rfl]
   left;refine⟨(),rfl,fun k hk=>?_⟩;by_cases e:k=i
   ·subst e; exact h3
   ·exact ht k (by omega)
  ·rw[h2,ob,if_neg Bool.false_ne_true]
   right;exact⟨_,rfl,.inr ⟨rfl,fun ha=> h3 (ha i hi)⟩⟩
 ·rintro _ ht
  exact⟨.inl (),rfl,.inl ⟨rfl,ht⟩⟩
theorem F49_1_eq{x:GComplex}{ms:List (List (List Int))}(hv:ValidC x)(hs:SmallT ms)(hl:ms.length=x.Maps.length):
  ∃t,forR 0 (ms.length:Int) (F49_1_B x ms) (F49_1_D x ms) ()=some t∧((t= .inl ()∧∀k,k < ms.length→TabM x ms k)∨(t= .inr 2∧¬∀k,k < ms.length→TabM x ms k)):=by
 have hm:=hs.m;have hlen:ms.length < 4611686018427387904:=by omega
 have hml:=hv.ml;have hdl:=hv.dl;have hp:=hv.p.range;refine forR_inv ms.length rfl hlen (fun i _=>∀k,k < i→TabM x ms k) _ (fun k hk=> by omega) ?_ ?_
 ·rintro i _ hi ht
  unfold F49_1_B;have hmem:=getD_mem hi [];have h1:=(hs.r _ hmem).1;have hT:=F90_tells (p:=x.Prime) (w:=x.Dims.getD i 0) (m:=ms.getD i []) hp (by omega) (fun r hr=> by have:=(hs.r _ hmem).2 r hr; omega);have e1:getI x.Dims ((i:Int)+1)=some (x.Dims.getD (i+1) 0):=by
   have:=getI_getD (show i+1 < x.Dims.length by omega) 0;exact this
  rw[getI_getD hi [],ob,e1,ob];by_cases hc:((ms.getD i []).length:Int)=x.Dims.getD (i+1) 0
  case neg=>
   rw[if_neg hc];right;exact⟨_,rfl,.inr ⟨rfl,fun ha=> hc (ha i hi).1⟩⟩
  rw[if_pos hc,getI_getD (show i < x.Dims.length by omega) 0,ob];rcases hT.case with⟨h2,h3⟩|⟨h2,h3⟩
  ·rw[h2,ob,if_pos rfl]
   left;refine⟨(),rfl,fun k hk=>?_⟩;by_cases e:k=i
   ·subst e; exact⟨hc,h3⟩
   ·exact ht k (by omega)
  ·rw[h2,ob,if_neg Bool.false_ne_true]
   right;exact⟨_,rfl,.inr ⟨rfl,fun ha=> h3 (ha i hi).2⟩⟩
 ·rintro _ ht
  exact⟨.inl (),rfl,.inl ⟨rfl,ht⟩⟩
theorem codes_eq{x:GComplex}{ms:List (List (List Int))}(hx:SmallC x)(hs:SmallT ms):∃c,F45 x ms=some c∧F49 x ms=some c∧(c=0→MapsOK x ms):=by
 unfold F45 F49;rcases(F39_tells hx).case with⟨h1,hv⟩|⟨h1,hv⟩
 case inr=>
  have h2:F42 x=some false:=by
   rcases(F42_tells hx).case with⟨_,h⟩|⟨h,_⟩
   ·exact absurd h hv
   ·exact h
  rw[h1,h2,ob,ob,if_neg Bool.false_ne_true,if_neg Bool.false_ne_true];exact⟨1,rfl,rfl,fun h=> absurd h (by decide)⟩
 have h2:F42 x=some true:=by
  rcases(F42_tells hx).case with⟨h,_⟩|⟨_,h⟩
  ·exact h
  ·exact absurd hv h
 rw[h1,h2,ob,ob,if_pos rfl,if_pos rfl];by_cases hl:(ms.length:Int)=(x.Maps.length:Int)
 case neg=> rw[if_neg hl,if_neg hl]; exact⟨2,rfl,rfl,fun h=> absurd h (by decide)⟩
 rw[if_pos hl,if_pos hl];have hl':ms.length=x.Maps.length:=by omega
 obtain⟨t,a1,a2⟩:=F45_1_eq hv hs hl';obtain⟨u,b1,b2⟩:=F49_1_eq hv hs hl';rw[a1,b1,ob,ob];rcases a2 with⟨rfl,a2⟩|⟨rfl,a2⟩
 ·rcases b2 with⟨rfl,b2⟩|⟨rfl,b2⟩
  ·exact⟨0,rfl,rfl,fun _=>⟨hv,hl',a2⟩⟩
  ·exact absurd a2 b2
 ·rcases b2 with⟨rfl,b2⟩|⟨rfl,b2⟩
  ·exact absurd b2 a2
  ·exact⟨2,rfl,rfl,fun h=> absurd h (by decide)⟩
abbrev T3s:=List (List (List Int))
def tb(ms:T3s)(k:Nat):List (List Int):=ms.getD k []
structure Shp (s u:T3s):Prop where
 l:s.length=u.length
 t:∀k,k < u.length→(s.getD k []).length=(u.getD k []).length
 r:∀k,k < u.length→∀i,i < (u.getD k []).length→((s.getD k []).getD i []).length=((u.getD k []).getD i []).length
theorem Shp.refl(s:T3s):Shp s s:=⟨rfl,fun _ _=> rfl,fun _ _ _ _=> rfl⟩
theorem Shp.trans{a b c:T3s}(h:Shp a b)(k:Shp b c):Shp a c:=
 ⟨h.l.trans k.l,fun n hn=>(h.t n (by rw[k.l]; exact hn)).trans (k.t n hn),fun n hn i hi=>(h.r n (by rw[k.l]; exact hn) i (by rw[k.t n hn]; exact hi)).trans (k.r n hn i hi)⟩
theorem Shp.symm{a b:T3s}(h:Shp a b):Shp b a:=
 ⟨h.l.symm,fun n hn=>(h.t n (by rw[←h.l]; exact hn)).symm,fun n hn i hi=>(h.r n (by rw[←h.l]; exact hn) i (by rw[←h.t n (by rw[←h.l]; exact hn)]; exact hi)).symm⟩
theorem Shp.inT{s t:T3s}(h:Shp s t){k i j:Nat}(q:InT t k i j):InT s k i j:=by
 obtain⟨q1,q2,q3⟩:=q;exact⟨by rw[h.l]; exact q1,by rw[h.t k q1]; exact q2,by rw[h.r k q1 i q2]; exact q3⟩
theorem getD_ext{α:Type}{l l':List α}(d:α)(h:l.length=l'.length)(hv:∀k,k < l'.length→l.getD k d=l'.getD k d):l=l':=by
 apply List.ext_getElem h;intro k h1 h2;have:=hv k h2;simpa[h1,h2]using this
theorem Shp.eq{s t:T3s}(h:Shp s t)(hv:∀k i j,InT t k i j→numAt s k i j=numAt t k i j):s=t:=by
 refine getD_ext [] h.l fun k hk=> getD_ext [] (h.t k hk) fun i hi=> getD_ext 0 (h.r k hk i hi) fun j hj=> hv k i j ⟨hk,hi,hj⟩
def put3(s:T3s)(k i j:Nat)(z:Int):T3s:=s.set k ((s.getD k []).set i (((s.getD k []).getD i []).set j z))
theorem getD_set{α:Type}{l:List α}{k k':Nat}{x d:α}(hk:k < l.length):(l.set k x).getD k' d=if k'=k then x else l.getD k' d:=by
 rw[List.getD_eq_getElem?_getD,List.getElem?_set];by_cases e:k=k'
 ·subst e; rw[if_pos rfl,if_pos hk,if_pos rfl]; rfl
 ·rw[if_neg e,if_neg (fun q=> e q.symm),List.getD_eq_getElem?_getD]
theorem put3_shp{s:T3s}{k i j:Nat}(h:InT s k i j)(z:Int):Shp (put3 s k i j z) s:=by
 obtain⟨h1,h2,h3⟩:=h;refine⟨by simp[put3],fun n hn=>?_,fun n hn m hm=>?_⟩
 ·unfold put3; rw[getD_set h1]; split
  ·rename_i e; subst e; simp
  ·rfl
 ·unfold put3; rw[getD_set h1]; split
  ·rename_i e; subst e
   rw[getD_set h2]; split
   ·rename_i e; subst e; simp
   ·rfl
  ·rfl
theorem put3_at{s:T3s}{k i j:Nat}(h:InT s k i j)(z:Int)(k' i' j':Nat):numAt (put3 s k i j z) k' i' j'=if k'=k∧i'=i∧j'=j then z else numAt s k' i' j':=by
 obtain⟨h1,h2,h3⟩:=h;unfold numAt put3;rw[getD_set h1];by_cases e:k'=k
 ·subst e
  rw[if_pos rfl,getD_set h2];by_cases e:i'=i
  ·subst e
   rw[if_pos rfl,getD_set h3];by_cases e:j'=j
   ·subst e; simp
   ·rw[if_neg e,if_neg (by simp[e])]
  ·rw[if_neg e,if_neg (by simp[e])]
 ·rw[if_neg e,if_neg (by simp[e])]
def q0(p a b:Int):Int:=(a+b).tmod p
def q1(p a b:Int):Int:=((a+b).tmod p+p).tmod p
theorem q0_range{p a b:Int}(hp:2≤p∧p≤7)(ha:0≤a∧a < p)(hb:0≤b∧b < p):0≤q0 p a b∧q0 p a b < p:=by
 unfold q0;rw[Int.tmod_eq_emod_of_nonneg (by omega)];exact⟨Int.emod_nonneg _ (by omega),Int.emod_lt_of_pos _ (by omega)⟩
theorem q1_eq{p a b:Int}(hp:2≤p∧p≤7)(ha:0≤a∧a < p)(hb:0≤b∧b < p):q1 p a b=q0 p a b:=by
 have h:=q0_range hp ha hb;unfold q0 at h;unfold q1 q0;rw[Int.tmod_eq_emod_of_nonneg (show 0≤(a+b).tmod p+p by omega),Int.add_emod_right,Int.emod_eq_of_lt h.1 h.2]
theorem q1_zero{p b:Int}(hp:2≤p∧p≤7)(hb:0≤b∧b < p):q1 p 0 b=b:=by
 rw[q1_eq hp (by omega) hb];unfold q0;rw[Int.zero_add,Int.tmod_eq_emod_of_nonneg hb.1,Int.emod_eq_of_lt hb.1 hb.2]
def Rng(p:Int)(s:T3s):Prop:=∀k i j,InT s k i j→0≤numAt s k i j∧numAt s k i j < p
theorem F75_eq{p:Int}(hp:2≤p∧p≤7){s:T3s}{k i j:Nat}{v:Int}(h:InT s k i j)(hk:k≤1048576)(ho:0≤numAt s k i j∧numAt s k i j < p)(hv:0≤v∧v < p):
  F75 p ((k:Int)+1) i j v s=some (put3 s k i j (q1 p (numAt s k i j) v)):=by
 obtain⟨h1,h2,h3⟩:=h;have e1:((k:Int)+1 - 1)=(k:Int):=by omega
 have hq:=q0_range hp ho hv;have ho':numAt s k i j=((s.getD k []).getD i []).getD j 0:=rfl;unfold q0 at hq;rw[ho']at hq ho;unfold F75;rw[chk_ok (by omega) (by omega),ob,e1,getI_getD h1 [],ob,getI_getD h2 [],ob,getI_getD h3 0,ob,chk_ok (by omega) (by omega),ob,remI_ok (by omega),ob,chk_ok (by omega) (by omega),ob,remI_ok (by omega),ob,setI_nat h3,ob,setI_nat h2,ob,setI_nat h1];rfl
def AT(q:Int→Int→Int)(s0 ms:T3s)(D:Nat→Nat→Nat→Prop)(s:T3s):Prop:=
 Shp s s0∧∀k i j,InT s0 k i j→(D k i j→numAt s k i j=q (numAt s0 k i j) (numAt ms k i j))∧(¬D k i j→numAt s k i j=numAt s0 k i j)
theorem AT.imp{q:Int→Int→Int}{s0 ms:T3s}{D D':Nat→Nat→Nat→Prop}{s:T3s}(h:AT q s0 ms D s)(hd:∀k i j,InT s0 k i j→(D k i j↔D' k i j)):AT q s0 ms D' s:=
 ⟨h.1,fun k i j hin=>⟨fun d=>(h.2 k i j hin).1 ((hd k i j hin).2 d),fun d=>(h.2 k i j hin).2 fun x=> d ((hd k i j hin).1 x)⟩⟩
theorem AT.zero(q:Int→Int→Int)(s0 ms:T3s):AT q s0 ms (fun _ _ _=> False) s0:=⟨.refl _,fun k i j _=>⟨fun x=> x.elim,fun _=> rfl⟩⟩
theorem AT.step{q:Int→Int→Int}{s0 ms:T3s}{D D':Nat→Nat→Nat→Prop}{s:T3s}(h:AT q s0 ms D s){k i j:Nat}(hin:InT s0 k i j)(hn:¬D k i j)(hd:∀k' i' j',D' k' i' j'↔D k' i' j'∨(k'=k∧i'=i∧j'=j)):AT q s0 ms D' (put3 s k i j (q (numAt s k i j) (numAt ms k i j))):=by
 have hs:=h.1.inT hin;refine⟨(put3_shp hs _).trans h.1,fun k' i' j' hin'=>?_⟩;rw[put3_at hs];by_cases e:k'=k∧i'=i∧j'=j
 ·obtain⟨rfl,rfl,rfl⟩:=e
  rw[if_pos ⟨rfl,rfl,rfl⟩,(h.2 _ _ _ hin').2 hn];exact⟨fun _=> rfl,fun d=> absurd ((hd _ _ _).2 (.inr ⟨rfl,rfl,rfl⟩)) d⟩
 ·rw[if_neg e]
  refine⟨fun d=>(h.2 _ _ _ hin').1 (((hd _ _ _).1 d).resolve_right e),fun d=>(h.2 _ _ _ hin').2 fun x=> d ((hd _ _ _).2 (.inl x))⟩
theorem F85_add{p:Int}(hp:2≤p∧p≤7){s0 ms:T3s}(hs:SmallT ms)(hsh:Shp s0 ms)(h0:Rng p s0)(h1:Rng p ms):
  ∃r,F85 ms (fun n r pl v s=> F75 p n r pl v s) s0=some r∧AT (q1 p) s0 ms (fun _ _ _=> True) r:=by
 unfold F85;have hm:=hs.m;have hl1:ms.length < 4611686018427387904:=by omega
 refine forR_inv (τ:=T3s) (σ:=T3s) ms.length rfl hl1 (fun n s=> AT (q1 p) s0 ms (fun k _ _=> k < n) s) _ ((AT.zero _ _ _).imp fun k i j _=> by simp) ?_ ?_
 ·intro k s hk hI
  left;rw[getI_getD hk [],ob];have hmem:ms.getD k []∈ms:=getD_mem hk [];have hmr:=hs.r _ hmem;have hl2:(ms.getD k []).length < 4611686018427387904:=by have:=hmr.1; omega
  suffices hx:∃t,forR 0 ((ms.getD k []).length:Int) _ _ s=some t∧AT (q1 p) s0 ms (fun k' _ _=> k' < k+1) t by
   obtain⟨t,g1,g2⟩:=hx;rw[g1,ob];exact⟨t,rfl,g2⟩
  refine forR_inv (τ:=T3s) (σ:=T3s) (ms.getD k []).length rfl hl2 (fun n s=> AT (q1 p) s0 ms (fun k' i _=> k' < k∨(k'=k∧i < n)) s) _ (hI.imp fun k i j _=> by simp) ?_ ?_
  ·intro i s hi hI2
   left;rw[getI_getD hi [],ob];have hmem2:(ms.getD k []).getD i []∈ms.getD k []:=getD_mem hi [];have hl3:((ms.getD k []).getD i []).length < 4611686018427387904:=by have:=hmr.2 _ hmem2; omega
   suffices hx:∃t,forR 0 (((ms.getD k []).getD i []).length:Int) _ _ s=some t∧AT (q1 p) s0 ms (fun k' i' _=> k' < k∨(k'=k∧i' < i+1)) t by
    obtain⟨t,g1,g2⟩:=hx;rw[g1,ob];exact⟨t,rfl,g2⟩
   refine forR_inv (τ:=T3s) (σ:=T3s) ((ms.getD k []).getD i []).length rfl hl3 (fun n s=> AT (q1 p) s0 ms (fun k' i' j=> k' < k∨(k'=k∧(i' < i∨(i'=i∧j < n)))) s) _ (hI2.imp fun k i j _=> by simp) ?_ ?_
   ·intro j s hj hI3
    left;have hin:InT ms k i j:=⟨hk,hi,hj⟩;have hin0:=hsh.inT hin;have hnd:¬(k < k∨(k=k∧(i < i∨(i=i∧j < j)))):=by omega
    have hold:=(hI3.2 k i j hin0).2 hnd;rw[getI_getD hj 0,ob,chk_ok (by omega) (by omega),ob];have hv:=h1 k i j hin;have ho:=h0 k i j hin0;have e:=F75_eq hp (v:=numAt ms k i j) (hI3.1.inT hin0) (by omega) (by rw[hold]; exact ho) hv;have e':F75 p ((k:Int)+1) i j (((ms.getD k []).getD i []).getD j 0) s=_:=e;refine⟨_,by rw[show(fun n r pl v s=> F75 p n r pl v s) ((k:Int)+1) (i:Int) (j:Int) (((ms.getD k []).getD i []).getD j 0) s=_ from e',ob],hI3.step hin0 hnd fun k' i' j'=> by omega⟩
   ·intro s hI3
    refine⟨s,rfl,hI3.imp fun k' i' j' hin'=>?_⟩;constructor
    ·omega
    ·intro q
     by_cases e:k'=k∧i'=i
     ·obtain⟨rfl,rfl⟩:=e
      have hj:=(hsh.symm.inT hin').2.2;omega
     ·omega
  ·intro s hI2
   refine⟨s,rfl,hI2.imp fun k' i' j' hin'=>?_⟩;constructor
   ·omega
   ·intro q
    by_cases e:k'=k
    ·subst e
     have hj:=(hsh.symm.inT hin').2.1;omega
    ·omega
 ·intro s hI
  refine⟨s,rfl,hI.imp fun k i j hin=>?_⟩;have:=(hsh.symm.inT hin).1;simp[this]
theorem AT.row{q:Int→Int→Int}{s0 ms:T3s}{D D':Nat→Nat→Nat→Prop}{s:T3s}(h:AT q s0 ms D s){k i:Nat}{row':List Int}(hk:k < s0.length)(hi:i < (s0.getD k []).length)(hl:row'.length=((s.getD k []).getD i []).length)
  (hv:∀j,j < row'.length→row'.getD j 0=q (numAt s k i j) (numAt ms k i j)) (hn:∀j,¬D k i j) (hd:∀k' i' j',D' k' i' j'↔D k' i' j'∨(k'=k∧i'=i)):AT q s0 ms D' (s.set k ((s.getD k []).set i row')):=by
 have hk':k < s.length:=by rw[h.1.l]; exact hk
 have hi':i < (s.getD k []).length:=by rw[h.1.t k hk]; exact hi
 refine⟨Shp.trans ⟨by simp,fun n hn=>?_,fun n hn m hm=>?_⟩ h.1,fun k' i' j' hin'=>?_⟩
 ·rw[getD_set hk']; split
  ·rename_i e; subst e; simp
  ·rfl
 ·rw[getD_set hk']; split
  ·rename_i e; subst e
   rw[getD_set hi']; split
   ·rename_i e; subst e; exact hl
   ·rfl
  ·rfl
 ·have hat:numAt (s.set k ((s.getD k []).set i row')) k' i' j'=if k'=k∧i'=i then row'.getD j' 0 else numAt s k' i' j':=by
   unfold numAt;rw[getD_set hk'];by_cases e:k'=k
   ·subst e
    rw[if_pos rfl,getD_set hi'];by_cases e:i'=i
    ·subst e; simp
    ·rw[if_neg e,if_neg (by simp[e])]
   ·rw[if_neg e,if_neg (by simp[e])]
  rw[hat];by_cases e:k'=k∧i'=i
  ·obtain⟨rfl,rfl⟩:=e
   rw[if_pos ⟨rfl,rfl⟩,hv j' (by rw[hl]; exact(h.1.inT hin').2.2),(h.2 _ _ _ hin').2 (hn j')];exact⟨fun _=> rfl,fun d=> absurd ((hd _ _ _).2 (.inr ⟨rfl,rfl⟩)) d⟩
  ·rw[if_neg e]
   refine⟨fun d=>(h.2 _ _ _ hin').1 (((hd _ _ _).1 d).resolve_right e),fun d=>(h.2 _ _ _ hin').2 fun x=> d ((hd _ _ _).2 (.inl x))⟩
theorem F46_3_eq{p:Int}(hp:2≤p∧p≤7){row ws:List Int}(hl:row.length=ws.length)(hs:row.length≤1048576)(h0:∀j,j < row.length→0≤row.getD j 0∧row.getD j 0 < p)(h1:∀j,j < row.length→0≤ws.getD j 0∧ws.getD j 0 < p):
  ∃r,forR 0 (row.length:Int) (F46_3_B p ws) F46_3_D row=some r∧r.length=row.length∧∀j,j < row.length→r.getD j 0=q0 p (row.getD j 0) (ws.getD j 0):=by
 have hlen:row.length < 4611686018427387904:=by omega
 refine forR_inv row.length rfl hlen (fun n s=> s.length=row.length∧∀j,j < row.length→s.getD j 0=if j < n then q0 p (row.getD j 0) (ws.getD j 0)else row.getD j 0) _ ⟨rfl,fun j _=> by simp⟩ ?_ ?_
 ·rintro j s hj ⟨g1,g2⟩
  left;have hj':j < s.length:=by omega
  have hv:s.getD j 0=row.getD j 0:=by rw[g2 j hj,if_neg (by omega)]
  have a0:=h0 j hj;have a1:=h1 j hj;unfold F46_3_B;rw[getI_getD hj' 0,ob,getI_getD (show j < ws.length by omega) 0,ob,hv,chk_ok (by omega) (by omega),ob,remI_ok (by omega),ob,setI_nat hj',ob];refine⟨_,rfl,by rw[List.length_set]; exact g1,fun k hk=>?_⟩;rw[getD_set hj'];by_cases e:k=j
  ·subst e; rw[if_pos rfl,if_pos (by omega)]; rfl
  ·rw[if_neg e,g2 k hk]
   by_cases h:k < j
   ·rw[if_pos h,if_pos (by omega)]
   ·rw[if_neg h,if_neg (by omega)]
 ·rintro s ⟨g1,g2⟩
  exact⟨s,rfl,g1,fun j hj=> by rw[g2 j hj,if_pos hj]⟩
theorem F46_add{p:Int}(hp:2≤p∧p≤7){s0 ms:T3s}(hs:SmallT ms)(hsh:Shp s0 ms)(h0:Rng p s0)(h1:Rng p ms):
  ∃r,forR 0 (ms.length:Int) (F46_1_B p ms) F46_1_D s0=some r∧AT (q0 p) s0 ms (fun _ _ _=> True) r:=by
 have hm:=hs.m;have hl1:ms.length < 4611686018427387904:=by omega
 refine forR_inv (τ:=T3s) (σ:=T3s) ms.length rfl hl1 (fun n s=> AT (q0 p) s0 ms (fun k _ _=> k < n) s) _ ((AT.zero _ _ _).imp fun k i j _=> by simp) ?_ ?_
 ·intro k s hk hI
  left;unfold F46_1_B;rw[getI_getD hk [],ob];have hmem:ms.getD k []∈ms:=getD_mem hk [];have hmr:=hs.r _ hmem;have hl2:(ms.getD k []).length < 4611686018427387904:=by have:=hmr.1; omega
  suffices hx:∃t,forR 0 ((ms.getD k []).length:Int) (F46_2_B p k (ms.getD k [])) F46_2_D s=some t∧AT (q0 p) s0 ms (fun k' _ _=> k' < k+1) t by
   obtain⟨t,g1,g2⟩:=hx;rw[g1,ob];exact⟨t,rfl,g2⟩
  refine forR_inv (τ:=T3s) (σ:=T3s) (ms.getD k []).length rfl hl2 (fun n s=> AT (q0 p) s0 ms (fun k' i _=> k' < k∨(k'=k∧i < n)) s) _ (hI.imp fun k i j _=> by simp) ?_ ?_
  ·intro i s hi hI2
   left;unfold F46_2_B;have hmem2:(ms.getD k []).getD i []∈ms.getD k []:=getD_mem hi [];have hk0:k < s0.length:=by rw[hsh.l]; exact hk
   have hi0:i < (s0.getD k []).length:=by rw[hsh.t k hk]; exact hi
   have hks:k < s.length:=by rw[hI2.1.l]; exact hk0
   have his:i < (s.getD k []).length:=by rw[hI2.1.t k hk0]; exact hi0
   have hrl:((s.getD k []).getD i []).length=((ms.getD k []).getD i []).length:=(hI2.1.r k hk0 i hi0).trans (hsh.r k hk i hi);have hnd:∀j:Nat,¬(k < k∨(k=k∧i < i)):=fun j=> by omega
   have hin:∀j,j < ((s.getD k []).getD i []).length→InT ms k i j:=fun j hj=>⟨hk,hi,by rw[←hrl]; exact hj⟩;have hold:∀j,j < ((s.getD k []).getD i []).length→numAt s k i j=numAt s0 k i j:=fun j hj=>(hI2.2 k i j (hsh.inT (hin j hj))).2 (hnd j);obtain⟨r,g1,g2,g3⟩:=F46_3_eq hp (row:=(s.getD k []).getD i []) (ws:=(ms.getD k []).getD i []) hrl (by rw[hrl]; exact hmr.2 _ hmem2) (fun j hj=> by
    have:=h0 k i j (hsh.inT (hin j hj));rw[←hold j hj]at this; exact this) (fun j hj=> h1 k i j (hin j hj))
   rw[getI_getD hks [],ob,getI_getD his [],ob,getI_getD hi [],ob,g1,ob,setI_nat his,ob,setI_nat hks,ob];exact⟨_,rfl,hI2.row hk0 hi0 g2 (fun j hj=> g3 j (by rw[←g2]; exact hj)) hnd fun k' i' j'=> by omega⟩
  ·intro s hI2
   refine⟨s,rfl,hI2.imp fun k' i' j' hin'=>?_⟩;constructor
   ·omega
   ·intro q
    by_cases e:k'=k
    ·subst e
     have hj:=(hsh.symm.inT hin').2.1;omega
    ·omega
 ·intro s hI
  refine⟨s,rfl,hI.imp fun k i j hin=>?_⟩;have:=(hsh.symm.inT hin).1;simp[this]
theorem cpy_loop{α:Type}{l:List α}{B:Int→List α→Option (List α⊕List α)}{D:Int→List α→Option (List α)}(hl:l.length≤1048576)
  (hB:∀ (i:Nat) (hi:i < l.length) (s:List α),s.length=i→B i s=some (.inl (s++[l[i]]))) (hD:∀i s,D i s=some s):forR 0 (l.length:Int) B D []=some l:=by
 have hlen:l.length < 4611686018427387904:=by omega
 obtain⟨t,h1,h2⟩:=forR_inv (B:=B) (D:=D) l.length rfl hlen (fun i s=> s=l.take i) (fun t=> t=l) (s:=[]) (by simp) (by
  rintro i s hi rfl;left;refine⟨_,hB i hi _ (by simp; omega),?_⟩;rw[List.take_append_getElem]) (by
  rintro s rfl;exact⟨_,hD _ _,by simp⟩)
 rw[h1,h2]
theorem app_nil{b:Nat}{α:Type}{l:List α}(h:l.length*b≤1099511627776)(h2:l.length≤1099511627776):app b [] l=some l:=by
 rw[app_ok (by simpa using h) (by simpa using h2)]; rfl
theorem F94_eq{l:List Int}(h:l.length≤1048576):F94 l=some l:=by
 unfold F94; rw[app_nil (by omega) (by omega),ob]
theorem F96_eq{l:List Int}(h:l.length≤1048576):F96 l=some l:=by
 unfold F96; rw[app_nil (by omega) (by omega)]
theorem F95_eq{l:List (List Int)}(h:l.length≤1048576)(h2:∀r∈l,r.length≤1048576):F95 l=some l:=by
 unfold F95;rw[cpy_loop (B:=F95_1_B l) (D:=F95_1_D l) h (fun i hi s hs=> by
  unfold F95_1_B;rw[getI_nat hi,ob,F94_eq (h2 _ (List.getElem_mem hi)),ob,app_ok (by simp; omega) (by simp; omega),ob]) (fun i s=> rfl),ob]
theorem F55_eq{x:GComplex}(h:SmallC x):F55 x=some x:=by
 have hm:=h.m;have hlen:x.Maps.length < 4611686018427387904:=by omega
 unfold F55;rw[F94_eq h.d,ob];obtain⟨t,h1,h2⟩:=forR_inv (B:=F55_1_B x) (D:=F55_1_D x) x.Maps.length rfl hlen (fun i s=> s=(x.Maps.take i,x.Prime,x.Dims)) (fun t=> t=(x.Maps,x.Prime,x.Dims)) (s:=([],x.Prime,x.Dims)) (by simp) (by
  rintro i s hi rfl;left;have hr:=h.r _ (List.getElem_mem hi);have hlt:(x.Maps.take i).length=i:=by simp; omega
  refine⟨(x.Maps.take (i+1),x.Prime,x.Dims),?_,rfl⟩;unfold F55_1_B;simp only;rw[getI_nat hi,ob,F95_eq hr.1 hr.2,ob,app_ok (by simp; omega) (by simp; omega),ob,List.take_append_getElem]) (by
  rintro s rfl;exact⟨_,rfl,by simp⟩)
 rw[h1,h2,ob]
theorem TabM.len{x:GComplex}{ms:T3s}{k:Nat}(h:TabM x ms k):((ms.getD k []).length:Int)=x.Dims.getD (k+1) 0:=h.1
theorem MapsOK.self{x:GComplex}(h:ValidC x):MapsOK x x.Maps:=⟨h,rfl,fun k hk=> h.tab k hk⟩
theorem MapsOK.rng{x:GComplex}{ms:T3s}(h:MapsOK x ms):Rng x.Prime ms:=by
 rintro k i j ⟨h1,h2,h3⟩;exact((h.t k h1).2 _ (getD_mem h2 [])).2 _ (getD_mem h3 0)
theorem MapsOK.shp{x:GComplex}{ms ns:T3s}(h:MapsOK x ms)(k:MapsOK x ns):Shp ms ns:=by
 have e:ms.length=ns.length:=h.l.trans k.l.symm;refine⟨e,fun n hn=>?_,fun n hn i hi=>?_⟩
 ·have a:=(h.t n (by omega)).1
  have b:=(k.t n hn).1;omega
 ·have a:=(h.t n (by omega)).1
  have b:=(k.t n hn).1;have c:=((h.t n (by omega)).2 _ (getD_mem (show i < (ms.getD n []).length by omega) [])).1;have d:=((k.t n hn).2 _ (getD_mem hi [])).1;omega
def zT(dims:List Int)(k:Nat):List (List Int):=List.replicate (dims.getD (k+1) 0).toNat (List.replicate (dims.getD k 0).toNat (0:Int))
def zM(dims:List Int):T3s:=(List.range (dims.length - 1)).map (zT dims)
theorem F74_2_eq{dims:List Int}(o:T3s)(a b:Int)(c:List Int){n:Nat}(h1:1≤n)(hn:n < dims.length)(hs:dims.length≤1048576)(hd:∀d∈dims,0≤d∧d≤8):
  forR 0 (dims.getD n 0) (F74_2_B dims o a c n b) (F74_2_D dims o a c n b) []=some (zT dims (n - 1)):=by
 have q:=hd _ (getD_mem hn 0);have q':=hd _ (getD_mem (show n - 1 < dims.length by omega) 0);have e1:((n:Int) - 1)=((n - 1:Nat):Int):=by omega
 obtain⟨t,g1,g2⟩:=forR_inv (B:=F74_2_B dims o a c n b) (D:=F74_2_D dims o a c n b) (hi:=dims.getD n 0) (dims.getD n 0).toNat (by omega) (by omega) (fun j s=> s=List.replicate j (List.replicate (dims.getD (n - 1) 0).toNat (0:Int))) (fun t=> t=zT dims (n - 1)) (s:=[]) (by simp) (by
  rintro j s hj rfl;left;refine⟨List.replicate (j+1) (List.replicate (dims.getD (n - 1) 0).toNat (0:Int)),?_,rfl⟩;unfold F74_2_B;rw[chk_ok (by omega) (by omega),ob,e1,getI_getD (show n - 1 < dims.length by omega) 0,ob,mkL_ok (dims.getD (n - 1) 0).toNat (by omega) (by omega) (by omega),ob,app_ok (by simp; omega) (by simp; omega),ob,List.replicate_succ']) (by
  rintro s rfl;refine⟨_,rfl,?_⟩;unfold zT;rw[show n - 1+1=n by omega])
 rw[g1,g2]
theorem F74_eq{p:Int}{dims:List Int}(h1:1≤dims.length)(hs:dims.length≤1048576)(hd:∀d∈dims,0≤d∧d≤8):F74 p dims=some ⟨p,dims,zM dims⟩:=by
 have hlen:dims.length < 4611686018427387904:=by omega
 unfold F74;obtain⟨t,g1,g2⟩:=forR_from (B:=F74_1_B dims) (D:=F74_1_D dims) 1 dims.length rfl rfl h1 hlen (fun n s=> 1≤n∧s=((List.range (n - 1)).map (zT dims),p,dims)) (fun t=> t=(zM dims,p,dims)) (s:=([],p,dims)) ⟨Nat.le_refl _,rfl⟩ (by
  rintro n s hn ⟨hn1,rfl⟩;left;refine⟨((List.range n).map (zT dims),p,dims),?_,by omega,rfl⟩;unfold F74_1_B;simp only;rw[getI_getD hn 0,ob,F74_2_eq _ _ _ _ hn1 hn hs hd,ob,app_ok (by simp; omega) (by simp; omega),ob];obtain⟨m,rfl⟩:∃m,n=m+1:=⟨n - 1,by omega⟩;rw[List.range_succ,List.map_append]; rfl) (by
  rintro s ⟨_,rfl⟩;exact⟨_,rfl,rfl⟩)
 have g1':forR 1 (dims.length:Int) (F74_1_B dims) (F74_1_D dims) ([],p,dims)=some t:=g1;rw[g1',g2,ob]
theorem zM_at{dims:List Int}{k:Nat}(hk:k < dims.length - 1):(zM dims).getD k []=zT dims k:=by
 unfold zM;rw[List.getD_eq_getElem?_getD,List.getElem?_map,List.getElem?_range hk]; rfl
theorem zM_shp{x:GComplex}(h:ValidC x):Shp (zM x.Dims) x.Maps:=by
 have hml:=h.ml;have hdl:=h.dl;refine⟨by simp[zM]; omega,fun k hk=>?_,fun k hk i hi=>?_⟩
 ·rw[zM_at (by omega)]
  have a:=(h.tab k hk).1;unfold zT;rw[List.length_replicate]; omega
 ·rw[zM_at (by omega)]
  have a:=(h.tab k hk).1;have d:=((h.tab k hk).2 _ (getD_mem hi [])).1;have hlt:i < (zT x.Dims k).length:=by unfold zT; rw[List.length_replicate]; omega
  have e:(zT x.Dims k).getD i []=List.replicate (x.Dims.getD k 0).toNat (0:Int):=by
   unfold zT at hlt ⊢;rw[List.getD_eq_getElem?_getD,List.getElem?_eq_getElem hlt,List.getElem_replicate]; rfl
  rw[e,List.length_replicate]; omega
theorem zM_num{x:GComplex}(h:ValidC x){k i j:Nat}(hin:InT (zM x.Dims) k i j):numAt (zM x.Dims) k i j=0:=by
 obtain⟨h1,h2,h3⟩:=hin;have hk:k < x.Dims.length - 1:=by simpa[zM]using h1
 rw[zM_at hk]at h2 h3;unfold numAt;rw[zM_at hk];unfold zT at h2 h3 ⊢;have e:(List.replicate (x.Dims.getD (k+1) 0).toNat (List.replicate (x.Dims.getD k 0).toNat (0:Int))).getD i []=List.replicate (x.Dims.getD k 0).toNat (0:Int):=by
  rw[List.getD_eq_getElem?_getD,List.getElem?_eq_getElem h2,List.getElem_replicate]; rfl
 rw[e]at h3 ⊢;rw[List.getD_eq_getElem?_getD,List.getElem?_eq_getElem h3,List.getElem_replicate]; rfl
theorem F57_eq{x:GComplex}(hx:SmallC x)(hv:ValidC x):F57 x=some x:=by
 have hp:=hv.p.range;have hok:=MapsOK.self hv;unfold F57;rw[F96_eq hx.d,ob,F74_eq (by have:=hv.dl; omega) hx.d hv.dims,ob];have hz:Rng x.Prime (zM x.Dims):=fun k i j hin=> by rw[zM_num hv hin]; omega
 obtain⟨r,g1,g2,g3⟩:=F85_add hp (s0:=zM x.Dims) (ms:=x.Maps) ⟨hx.m,hx.r⟩ (zM_shp hv) hz hok.rng;have hr:r=x.Maps:=(g2.trans (zM_shp hv)).eq fun k i j hin=> by
  have hin0:=(zM_shp hv).inT hin;rw[(g3 k i j hin0).1 trivial,zM_num hv hin0];exact q1_zero hp (hok.rng k i j hin)
 subst hr;rw[g1,ob]
theorem pert_eq{x:GComplex}{ms:T3s}(hx:SmallC x)(hs:SmallT ms)(h:MapsOK x ms):∃y,F46 x ms=some y∧F50 x ms=some y∧SmallC y:=by
 have hv:=h.v;have hp:=hv.p.range;have hok:=MapsOK.self hv;have hsh:=hok.shp h;obtain⟨r,g1,g2,g3⟩:=F46_add hp hs hsh hok.rng h.rng;obtain⟨r',k1,k2,k3⟩:=F85_add hp hs hsh hok.rng h.rng;have hr:r'=r:=(k2.trans g2.symm).eq fun k i j hin=> by
  have hin0:=g2.symm.inT hin;rw[(k3 k i j hin0).1 trivial,(g3 k i j hin0).1 trivial];exact q1_eq hp (hok.rng k i j hin0) (h.rng k i j (hsh.symm.inT hin0))
 subst hr;refine⟨⟨x.Prime,x.Dims,r'⟩,?_,?_,⟨hx.d,by rw[g2.l]; exact hx.m,fun m hm=>?_⟩⟩
 ·unfold F46; rw[F55_eq hx,ob,g1,ob]
 ·unfold F50; rw[F57_eq hx hv,ob,k1,ob]
 ·have hm:m∈r':=hm
  obtain⟨k,hk,rfl⟩:=List.getElem_of_mem hm;have hk':k < x.Maps.length:=by rw[←g2.l]; exact hk
  have a:=g2.t k hk';have q:=hx.r _ (getD_mem hk' []);have e:r'.getD k []=r'[k]:=by simp[hk]
  rw[e]at a;refine⟨by omega,fun w hw=>?_⟩;obtain⟨i,hi,rfl⟩:=List.getElem_of_mem hw;have hi':i < (x.Maps.getD k []).length:=by omega
  have b:=g2.r k hk' i hi';rw[e]at b;have e2:r'[k].getD i []=r'[k][i]:=by simp[hi]
  rw[e2]at b;rw[b];exact q.2 _ (getD_mem hi' [])
inductive Ch {α:Type} (R:α→Int→Int→Prop):List α→Int→Int→Prop
 |nil (k:Int):Ch R [] k k
 |cons {a:α} {l:List α} {k j m:Int}:R a k j→Ch R l j m→Ch R (a::l) k m
theorem Ch.snoc{α:Type}{R:α→Int→Int→Prop}{a:α}{j m:Int}(h:R a j m):∀ {l:List α} {k:Int},Ch R l k j→Ch R (l++[a]) k m
 |_,_,.nil _=> .cons h (.nil _)
 |_,_,.cons p q=> .cons p (Ch.snoc h q)
theorem take_set_app{α:Type}{l:List α}{i:Nat}(hi:i < l.length)(a:α):(l.set i a).take (i+1)=l.take i++[a]:=by
 rw[List.take_add_one,List.getElem?_set_self hi,List.take_set_of_le (Nat.le_refl _)]; rfl
theorem mark_loop{α:Type}{l:List α}{R:α→Int→Int→Prop}{M k:Int}{B:Int→List α×Int→Option ((List α×Int)⊕(List α×Int))}{D:Int→List α×Int→Option (List α×Int)}(hl:l.length≤1048576)(hM:0≤M)
  (hB:∀ (i:Nat) (hi:i < l.length) (s:List α) (j:Int),s.length=l.length→s[i]? =some l[i]→k≤j→j≤k+i*M→∃a m,B i (s,j)=some (.inl (s.set i a,m))∧R a j m∧j≤m∧m≤j+M) (hD:∀i s,D i s=some s):
  ∃r j,forR 0 (l.length:Int) B D (l,k)=some (r,j)∧Ch R r k j∧k≤j∧j≤k+l.length*M∧r.length=l.length:=by
 have hlen:l.length < 4611686018427387904:=by omega
 obtain⟨t,h1,h2,h3,h4,h5⟩:=forR_inv (B:=B) (D:=D) l.length rfl hlen (fun i s=> s.1.length=l.length∧(∀n,i≤n→s.1[n]? =l[n]?)∧Ch R (s.1.take i) k s.2∧k≤s.2∧s.2≤k+i*M) (fun t=> Ch R t.1 k t.2∧k≤t.2∧t.2≤k+l.length*M∧t.1.length=l.length) (s:=(l,k)) ⟨rfl,fun _ _=> rfl,by simpa using Ch.nil k,Int.le_refl _,by simp⟩ (by
  rintro i ⟨s,j⟩ hi ⟨p1,p2,p3,p4,p5⟩;simp only at p1 p2 p3 p4 p5;left;obtain⟨a,m,q1,q2,q3,q4⟩:=hB i hi s j p1 (by rw[p2 i (Nat.le_refl _)]; simp[hi]) p4 p5;refine⟨_,q1,by simp[p1],fun n hn=>?_,?_,by simp only; omega,?_⟩
  ·simp only
   rw[List.getElem?_set_ne (by omega)]; exact p2 n (by omega)
  ·simp only
   rw[take_set_app (by omega)]; exact p3.snoc q2
  ·simp only
   rw[Int.natCast_add,Int.add_mul]; omega) (by
  rintro⟨s,j⟩ ⟨p1,p2,p3,p4,p5⟩;simp only at p1 p2 p3 p4 p5;refine⟨_,hD _ _,?_,p4,p5,p1⟩;rw[←p1,List.take_length]at p3;exact p3)
 exact⟨t.1,t.2,h1,h2,h3,h4,h5⟩
theorem held_loop{α:Type}{l:List α}{R:α→Int→Int→Prop}{k m:Int}{B:Int→Int→Option (Int⊕(Int⊕Int))}{D:Int→Int→Option (Int⊕Int)}(hl:l.length≤1048576)(hc:Ch R l k m)
  (hB:∀ (i:Nat) (hi:i < l.length) (s j:Int),k≤s→R l[i] s j→B i s=some (.inl j)) (hR:∀a s j,R a s j→s≤j) (hD:∀i s,D i s=some (.inl s)):forR 0 (l.length:Int) B D k=some (.inl m):=by
 have hlen:l.length < 4611686018427387904:=by omega
 obtain⟨t,h1,h2⟩:=forR_inv (B:=B) (D:=D) l.length rfl hlen (fun i s=> k≤s∧Ch R (l.drop i) s m) (fun t=> t= .inl m) (s:=k) ⟨Int.le_refl _,hc⟩ (by
  rintro i s hi ⟨p0,p⟩;left;rw[List.drop_eq_getElem_cons hi]at p;cases p with
  |cons p q=>
   rename_i j;exact⟨j,hB i hi s j p0 p,by have:=hR _ _ _ p; omega,q⟩) (by
  rintro s ⟨_,p⟩;rw[List.drop_length]at p;cases p;exact⟨_,hD _ _,rfl⟩)
 rw[h1,h2]
def Mk0(n:Int)(k m:Int):Prop:=n=k∧m=k+1
def Mk1(l:List Int)(k m:Int):Prop:=l.length≤1048576∧k≤m∧m≤k+1048576∧Ch Mk0 l k m
def Mk2(l:List (List Int))(k m:Int):Prop:=l.length≤1048576∧k≤m∧m≤k+1099511627776∧Ch Mk1 l k m
def Mk3(l:List (List (List Int)))(k m:Int):Prop:=l.length≤1048576∧k≤m∧m≤k+1152921504606846976∧Ch Mk2 l k m
theorem F31_mk{l:List Int}(h:l.length≤1048576){k:Int}(h0:0≤k)(h1:k≤9223372036850000000):∃r m,F31 l k=some (r,m)∧Mk1 r k m:=by
 obtain⟨r,j,g1,g2,g3,g4,g5⟩:=mark_loop (R:=Mk0) (k:=k) (B:=F31_1_B) (D:=F31_1_D) (M:=1) h (by decide) (by
  intro i hi s j e1 e2 e3 e4;unfold F31_1_B;simp only;rw[setI_nat (by omega),ob,chk_ok (by omega) (by omega),ob];exact⟨_,_,rfl,⟨rfl,rfl⟩,by omega,by omega⟩) (fun i s=> rfl)
 exact⟨r,j,g1,by omega,g3,by omega,g2⟩
theorem F52_mk{l:List (List Int)}(h:l.length≤1048576)(h2:∀r∈l,r.length≤1048576){k:Int}(h0:0≤k)(h1:k≤9200000000000000000):∃r m,F52 l k=some (r,m)∧Mk2 r k m:=by
 obtain⟨r,j,g1,g2,g3,g4,g5⟩:=mark_loop (R:=Mk1) (k:=k) (B:=F52_1_B) (D:=F52_1_D) (M:=1048576) h (by decide) (by
  intro i hi s j e1 e2 e3 e4;unfold F52_1_B;simp only;obtain⟨r,m,q1,q2⟩:=F31_mk (h2 _ (List.getElem_mem hi)) (k:=j) (by omega) (by omega);have e5:getI s (i:Int)=some l[i]:=by unfold getI; rw[if_pos (by omega),Int.toNat_natCast]; exact e2
  rw[e5,ob,q1,ob,setI_nat (by omega),ob];exact⟨_,_,rfl,q2,q2.2.1,q2.2.2.1⟩) (fun i s=> rfl)
 exact⟨r,j,g1,by omega,g3,by omega,g2⟩
theorem F21_mk{l:List (List (List Int))}(h:l.length≤1048576)(h2:∀m∈l,m.length≤1048576∧∀r∈m,r.length≤1048576){k:Int}(h0:0≤k)(h1:k≤8000000000000000000):∃r m,F21 l k=some (r,m)∧Mk3 r k m:=by
 obtain⟨r,j,g1,g2,g3,g4,g5⟩:=mark_loop (R:=Mk2) (k:=k) (B:=F21_1_B) (D:=F21_1_D) (M:=1099511627776) h (by decide) (by
  intro i hi s j e1 e2 e3 e4;unfold F21_1_B;simp only;have hh:=h2 _ (List.getElem_mem hi);obtain⟨r,m,q1,q2⟩:=F52_mk hh.1 hh.2 (k:=j) (by omega) (by omega);have e5:getI s (i:Int)=some l[i]:=by unfold getI; rw[if_pos (by omega),Int.toNat_natCast]; exact e2
  rw[e5,ob,q1,ob,setI_nat (by omega),ob];exact⟨_,_,rfl,q2,q2.2.1,q2.2.2.1⟩) (fun i s=> rfl)
 exact⟨r,j,g1,by omega,g3,by omega,g2⟩
theorem F32_held{l:List Int}{k m:Int}(h:Mk1 l k m)(h0:0≤k)(h1:k≤4611686018427387904):F32 l k=some m:=by
 obtain⟨hl,h2,h3,hc⟩:=h;unfold F32;have:=held_loop (B:=F32_1_B l) (D:=F32_1_D l) (k:=k) (m:=m) hl (R:=fun a s j=> Mk0 a s j∧j≤m) (by
  clear h0 h1 h2 h3 hl;induction hc with
  |nil k=> exact .nil k
  |cons p q ih=>
   refine .cons ⟨p,?_⟩ ih;clear ih p;induction q with
   |nil=> exact Int.le_refl _
   |cons p q ih=> obtain⟨rfl,rfl⟩:=p; omega) (by
  rintro i hi s j hs ⟨⟨p,rfl⟩,hj⟩;unfold F32_1_B;rw[getI_nat hi,ob,if_pos p,chk_ok (by omega) (by omega),ob]) (fun a s j p=> by obtain⟨⟨_,rfl⟩,_⟩:=p; omega) (fun i s=> rfl)
 rw[this,ob]
theorem Ch.le{α:Type}{R:α→Int→Int→Prop}(hR:∀a s j,R a s j→s≤j):∀ {l:List α} {k m:Int},Ch R l k m→k≤m
 |_,_,_,.nil _=> Int.le_refl _
 |_,_,_,.cons p q=> Int.le_trans (hR _ _ _ p) (Ch.le hR q)
theorem Ch.upto{α:Type}{R:α→Int→Int→Prop}(hR:∀a s j,R a s j→s≤j):∀ {l:List α} {k m:Int},Ch R l k m→Ch (fun a s j=> R a s j∧j≤m) l k m
 |_,_,_,.nil k=> .nil k
 |_,_,_,.cons p q=> .cons ⟨p,Ch.le hR q⟩ (Ch.upto hR q)
theorem F59_held{l:List (List Int)}{k m:Int}(h:Mk2 l k m)(h0:0≤k)(h1:m≤4611686018427387904):F59 l k=some m:=by
 obtain⟨hl,h2,h3,hc⟩:=h;unfold F59;rw[held_loop (B:=F59_1_B l) (D:=F59_1_D l) (k:=k) (m:=m) hl (hc.upto fun a s j p=> p.2.1) (by
  rintro i hi s j hs ⟨p,hj⟩;unfold F59_1_B;have p2:=p.2.1;rw[getI_nat hi,ob,F32_held p (by omega) (by omega),ob,if_neg (by omega)]) (fun a s j p=> p.1.2.1) (fun i s=> rfl),ob]
theorem F53_held{l:List (List (List Int))}{k m:Int}(h:Mk3 l k m)(h0:0≤k)(h1:m≤4611686018427387904):F53 l k=some m:=by
 obtain⟨hl,h2,h3,hc⟩:=h;unfold F53;rw[held_loop (B:=F53_1_B l) (D:=F53_1_D l) (k:=k) (m:=m) hl (hc.upto fun a s j p=> p.2.1) (by
  rintro i hi s j hs ⟨p,hj⟩;unfold F53_1_B;have p2:=p.2.1;rw[getI_nat hi,ob,F59_held p (by omega) (by omega),ob,if_neg (by omega)]) (fun a s j p=> p.1.2.1) (fun i s=> rfl),ob]
structure MkC (y:GComplex) (k m:Int):Prop where
 ex:∃j,Mk1 y.Dims k j∧Mk3 y.Maps j m
theorem FM20_m{x:GComplex}(h:SmallC x){k:Int}(h0:0≤k)(h1:k≤1200000000000000000):∃y m,FM20 x k=some (y,m)∧k≤m∧m≤k+1152921504608000000∧MkC y k m:=by
 obtain⟨d,j,g1,g2⟩:=F31_mk h.d (k:=k) h0 (by omega);have b2:=g2.2.1;have b3:=g2.2.2.1;obtain⟨ms,m,k1,k2⟩:=F21_mk h.m h.r (k:=j) (by omega) (by omega);have b4:=k2.2.1;have b5:=k2.2.2.1;refine⟨⟨x.Prime,d,ms⟩,m,?_,by omega,by omega,⟨j,g2,k2⟩⟩;unfold FM20 F20;rw[g1,ob];simp only;rw[k1,ob,ob]
theorem F22_held{y:GComplex}{k m:Int}(h:MkC y k m)(h0:0≤k)(h1:k≤1200000000000000000):F22 y k=some m:=by
 obtain⟨j,g2,k2⟩:=h.ex;have b2:=g2.2.1;have b3:=g2.2.2.1;have b4:=k2.2.1;have b5:=k2.2.2.1;unfold F22;rw[F32_held g2 h0 (by omega),ob,if_neg (by omega),F53_held k2 (by omega) (by omega),ob,if_neg (by omega)]
theorem FM20_mk{x:GComplex}(h:SmallC x){k:Int}(h0:0≤k)(h1:k≤1200000000000000000):∃y m,FM20 x k=some (y,m)∧k≤m∧m≤k+1152921504608000000∧F22 y k=some m:=by
 obtain⟨y,m,a,b,c,d⟩:=FM20_m h h0 h1;exact⟨y,m,a,b,c,F22_held d h0 h1⟩
theorem SmallC.zero:SmallC (⟨0,[],[]⟩:GComplex):=⟨by simp,by simp,by simp⟩
theorem SmallF.zero:SmallF (⟨⟨0,[],[]⟩,[]⟩:GFiltered):=⟨.zero,by simp,by simp⟩
theorem tmod_pos{a p:Int}(h:0≤a):a.tmod p=a% p:=Int.tmod_eq_emod_of_nonneg h
theorem tmod_cg{a p:Int}:Cg p (a.tmod p) a:=⟨-(a.tdiv p),by have:=Int.tmod_add_mul_tdiv a p; grind⟩
theorem F127_eq{p x:Int}(hp:2≤p∧p≤7):F127 p x=some (x% p):=by
 have h1:=Int.tmod_lt_of_pos x (show 0 < p by omega);have h2: -p < x.tmod p:=by
  have h3:=Int.tmod_lt_of_pos (-x) (show 0 < p by omega);rw[Int.neg_tmod]at h3; omega
 unfold F127;rw[remI_ok (by omega),ob,chk_ok (by omega) (by omega),ob,remI_ok (by omega),ob,tmod_pos (by omega)]
 congr 1
 exact Cg.emod ((tmod_cg.add (Cg.refl p p)).trans ⟨1,by grind⟩)
theorem idx_loop{α:Type}{l:List α}(g:Nat→α→α){B:Int→List α→Option (List α⊕List α)}{D:Int→List α→Option (List α)}(hl:l.length≤1048576)
  (hB:∀ (i:Nat) (hi:i < l.length) (s:List α),s.length=l.length→(∀k,s[k]? =if k < i then(l[k]?).map (g k)else l[k]?)→B i s=some (.inl (s.set i (g i l[i])))) (hD:∀i s,D i s=some s):forR 0 (l.length:Int) B D l=some (l.mapIdx g):=by
 obtain⟨t,h1,h2⟩:=forR_inv (B:=B) (D:=D) l.length rfl (by omega) (fun i s=> s.length=l.length∧∀k,s[k]? =if k < i then(l[k]?).map (g k)else l[k]?) (fun t=> t=l.mapIdx g) (s:=l) ⟨rfl,fun k=> by simp⟩ (by
  rintro i s hi ⟨p1,p2⟩;left;refine⟨_,hB i hi s p1 p2,by rw[List.length_set]; exact p1,fun k=>?_⟩;rw[List.getElem?_set];by_cases e:i=k
  ·subst e; rw[if_pos rfl,if_pos (by omega),if_pos (by omega)]; simp[hi]
  ·rw[if_neg e,p2 k]
   by_cases q:k < i
   ·rw[if_pos q,if_pos (by omega)]
   ·rw[if_neg q,if_neg (by omega)]) (by
  rintro s ⟨p1,p2⟩;refine⟨s,hD _ _,?_⟩;apply List.ext_getElem?;intro k;rw[p2 k,List.getElem?_mapIdx];by_cases q:k < l.length
  ·rw[if_pos q]
  ·rw[if_neg q,List.getElem?_eq_none (by omega)]; rfl)
 rw[h1,h2]
theorem nth_get{v:List Int}{j:Nat}(h:j < v.length):getI v (j:Int)=some (nth v j):=by rw[getI_nat h,nth_lt h]
theorem rng_mul{p a b:Int}(hp:2≤p∧p≤7)(ha:0≤a∧a < p)(hb:0≤b∧b < p):0≤a*b∧a*b≤49:=by
 refine⟨Int.mul_nonneg ha.1 hb.1,?_⟩;have:=Int.mul_le_mul (show a≤7 by omega) (show b≤7 by omega) hb.1 (by decide);omega
theorem scl_loop{p k:Int}{w:Nat}(hp:2≤p∧p≤7)(hk:0≤k∧k < p){v:List Int}(hv:VecOK p w v)(hw:w≤1048576){B:Int→List Int→Option (List Int⊕List Int)}{D:Int→List Int→Option (List Int)}
  (hB:∀i row,B i row=(getI row i).bind fun x=>(chk (x*k)).bind fun m=>(remI m p).bind fun z=>(setI row i z).bind fun r=> some (.inl r)) (hD:∀i s,D i s=some s):forR 0 (v.length:Int) B D v=some (scl p v k):=by
 have hl:=hv.len;rw[idx_loop (fun _ x=> x*k% p) (by omega) (fun i hi s hs hk'=>?_) hD]
 ·congr 1
  apply List.ext_getElem <;> simp[scl]
 ·have h1:s[i]? =v[i]?:=by rw[hk' i,if_neg (Nat.lt_irrefl _)]
  have h2:s[i]'(by omega)=v[i]:=by
   have:=h1;rw[List.getElem?_eq_getElem (by omega),List.getElem?_eq_getElem hi]at this;exact Option.some.inj this
  have hr:=hv.rng i (by omega);rw[nth_lt hi]at hr;have hm:=rng_mul hp hr hk;rw[hB,getI_nat (show i < s.length by omega),ob,h2,chk_ok (by omega) (by omega),ob,remI_ok (by omega),ob,setI_nat (by omega),ob,tmod_pos hm.1]
theorem F136_eq{p k:Int}{w:Nat}(hp:2≤p∧p≤7)(hk:0≤k∧k < p){v u:List Int}(hv:VecOK p w v)(hu:VecOK p w u)(hw:w≤1048576):F136 p v u k=some (subv p v u k):=by
 have hl:=hv.len;have hul:=hu.len;have hsl:(subv p v u k).length=w:=by simp[subv,hl,hul]
 unfold F136;obtain⟨t,g1,g2⟩:=forR_inv (B:=F136_1_B p v u k) (D:=F136_1_D p v u k) v.length rfl (by omega) (fun i s=> s=(subv p v u k).take i) (fun t=> t=subv p v u k) (s:=[]) (by simp) (by
  rintro i s hi rfl;left;have hiw:i < w:=by omega
  have h1:=hv.rng i hiw;have h2:=hu.rng i hiw;have hm:=rng_mul hp hk h2;refine⟨(subv p v u k).take (i+1),?_,rfl⟩;unfold F136_1_B;rw[nth_get hi,ob,nth_get (by omega),ob,chk_ok (by omega) (by omega),ob,chk_ok (by omega) (by omega),ob,F127_eq hp,ob,app_ok (by simp; omega) (by simp; omega),ob]
  congr 2
  rw[←List.take_append_getElem (show i < (subv p v u k).length by omega)]
  congr 2
  have:=nth_sub (p:=p) (k:=k) hl hul hiw;rw[nth_lt (by omega)]at this;exact this.symm) (by
  rintro s rfl;refine⟨_,rfl,?_⟩;rw[List.take_of_length_le (by omega)])
 rw[g1,ob,g2]
theorem F81_ld{r:List Int}(hl:r.length≤1048576):F81 r=some (if ld r < r.length then(ld r:Int)else -1):=by
 unfold F81;obtain⟨t,g1,g2⟩:=forR_inv (B:=F81_1_B r) (D:=F81_1_D r) r.length rfl (by omega) (fun i _=> i≤ld r) (fun t=>(t= .inl ()∧r.length≤ld r)∨(t= .inr (ld r:Int)∧ld r < r.length)) (s:=()) (Nat.zero_le _) (by
  rintro i _ hi hI;unfold F81_1_B;rw[nth_get hi,ob];by_cases h:nth r i=0
  ·left
   rw[if_pos h];refine⟨(),rfl,?_⟩;rcases Nat.lt_or_ge i (ld r)with q|q
   ·exact q
   ·have:i=ld r:=by omega
    subst this;exact absurd h (ld_ne hi)
  ·right
   rw[if_neg h];refine⟨_,rfl,.inr ?_⟩;have:ld r=i:=by
    rcases Nat.lt_or_ge i (ld r)with q|q
    ·exact absurd (ld_zero q) h
    ·omega
   rw[this]; exact⟨rfl,hi⟩) (by
  rintro _ hI;exact⟨_,rfl,.inl ⟨rfl,hI⟩⟩)
 rw[g1,ob];rcases g2 with⟨rfl,h⟩|⟨rfl,h⟩
 ·rw[if_neg (by omega)]
 ·rw[if_pos h]
theorem inv_ex{p x:Int}(hp:IsP p)(h1:1≤x)(h2:x < p):∃m,1≤m∧m < p∧m*x% p=1:=by
 unfold IsP at hp;rcases hp with rfl|rfl|rfl|rfl
 ·obtain rfl:x=1:=by omega
  exact⟨1,by decide⟩
 ·have:x=1∨x=2:=by omega
  rcases this with rfl|rfl
  ·exact⟨1,by decide⟩
  ·exact⟨2,by decide⟩
 ·have:x=1∨x=2∨x=3∨x=4:=by omega
  rcases this with rfl|rfl|rfl|rfl
  ·exact⟨1,by decide⟩
  ·exact⟨3,by decide⟩
  ·exact⟨2,by decide⟩
  ·exact⟨4,by decide⟩
 ·have:x=1∨x=2∨x=3∨x=4∨x=5∨x=6:=by omega
  rcases this with rfl|rfl|rfl|rfl|rfl|rfl
  ·exact⟨1,by decide⟩
  ·exact⟨4,by decide⟩
  ·exact⟨5,by decide⟩
  ·exact⟨2,by decide⟩
  ·exact⟨3,by decide⟩
  ·exact⟨6,by decide⟩
theorem cg_one{p a:Int}(hp:2≤p∧p≤7)(h:a% p=1):Cg p a 1:=by
 have:=(Cg.mod p a).symm
 rwa[h]at this
theorem F135_eq{p x:Int}(hp:IsP p)(h1:1≤x)(h2:x < p):∃k,F135 p x=some k∧0≤k∧k < p∧Cg p (x*k) 1:=by
 have hr:=hp.range;obtain⟨m,m1,m2,m3⟩:=inv_ex hp h1 h2;obtain⟨n,hn⟩:∃n:Nat,p=n:=⟨p.toNat,by omega⟩;obtain⟨t,g1,k,rfl,g2,g3,g4⟩:=forR_from (B:=F135_1_B p x) (D:=F135_1_D p x) (lo:=1) (hi:=p) 1 n rfl hn (by omega) (by omega) (fun i _=> 1≤i∧∀j:Int,1≤j→j < i→j*x% p≠1) (fun t=>∃k:Int,t= .inr k∧0≤k∧k < p∧Cg p (x*k) 1) (s:=()) ⟨Nat.le_refl _,fun j a b=> by omega⟩ (by
  rintro i _ hi ⟨h0,hI⟩;unfold F135_1_B;have hm:=rng_mul hr (show 0≤(i:Int)∧(i:Int) < p by omega) (show 0≤x∧x < p by omega);rw[F127_eq hr,ob,Int.emod_eq_of_lt (show 0≤x by omega) h2,chk_ok (by omega) (by omega),ob,remI_ok (by omega),ob,tmod_pos hm.1];by_cases h:(i:Int)*x% p=1
  ·right
   rw[if_pos h];exact⟨_,rfl,_,rfl,by omega,by omega,by rw[Int.mul_comm]; exact cg_one hr h⟩
  ·left
   rw[if_neg h];refine⟨(),rfl,by omega,fun j a b=>?_⟩;by_cases e:j=i
   ·subst e; exact h
   ·exact hI j a (by omega)) (by
  rintro _ ⟨h0,hI⟩;exact absurd m3 (hI m m1 (by omega)))
 unfold F135;rw[g1,ob];exact⟨k,rfl,g2,g3,g4⟩
theorem F138_eq{p x:Int}(hp:IsP p)(h1:1≤x)(h2:x < p):∃k,F138 p x=some k∧0≤k∧k < p∧Cg p (x*k) 1:=by
 have hr:=hp.range;obtain⟨m,m1,m2,m3⟩:=inv_ex hp h1 h2;obtain⟨t,g1,g2,g3,g4⟩:=loopW_inv (S:=F138_1_S p x) (fun v=>(m - v).toNat) (fun v=> 1≤v∧v≤m) (fun t=> 0≤t∧t < p∧Cg p (x*t) 1) (s:=1) ⟨by decide,m1⟩ (by
  rintro v ⟨v1,v2⟩;unfold F138_1_S;have hm:=rng_mul hr (show 0≤v∧v < p by omega) (show 0≤x∧x < p by omega);rw[chk_ok (by omega) (by omega),ob,remI_ok (by omega),ob,tmod_pos hm.1];by_cases h:v*x% p=1
  ·right
   rw[if_pos h];exact⟨_,rfl,by omega,by omega,by rw[Int.mul_comm]; exact cg_one hr h⟩
  ·left
   have hne:v≠m:=fun e=> by rw[e]at h; exact h m3
   rw[if_neg h,chk_ok (by omega) (by omega),ob];exact⟨_,rfl,⟨by omega,by omega⟩,by omega⟩)
 unfold F138;rw[g1,ob];exact⟨t,rfl,g2,g3,g4⟩
theorem F139_eq{p k:Int}{w:Nat}(hp:2≤p∧p≤7)(hk:0≤k∧k < p){r o:List Int}(hr:VecOK p w r)(ho:VecOK p w o)(hw:w≤1048576):F139 r o p k=some (subv p r o k):=by
 have hl:=hr.len;have hol:=ho.len;unfold F139;rw[show(o.length:Int)=(r.length:Int) by omega,idx_loop (l:=r) (B:=F139_1_B o p k) (D:=F139_1_D) (fun i x=>(x - k*nth o i)% p) (by omega) (fun i hi s hs hk'=>?_) (fun i s=> rfl)]
 ·congr 1
  have hsl:(subv p r o k).length=w:=by simp[subv,hl,hol]
  apply List.ext_getElem (by simp[hl,hsl]);intro i h1 h2;have hi:i < w:=by omega
  have:=nth_sub (p:=p) (k:=k) hl hol hi;rw[nth_lt h2,nth_lt (show i < r.length by omega)]at this;rw[this]; simp
 ·have h1:s[i]? =r[i]?:=by rw[hk' i,if_neg (Nat.lt_irrefl _)]
  have h2:s[i]'(by omega)=r[i]:=by
   have:=h1;rw[List.getElem?_eq_getElem (by omega),List.getElem?_eq_getElem hi]at this;exact Option.some.inj this
  have a1:=hr.rng i (by omega);rw[nth_lt hi]at a1;have a2:=ho.rng i (by omega);have hm:0≤(p - k)*nth o i∧(p - k)*nth o i≤49:=by
   refine⟨Int.mul_nonneg (by omega) a2.1,?_⟩;have:=Int.mul_le_mul (show p - k≤7 by omega) (show nth o i≤7 by omega) a2.1 (by decide);omega
  unfold F139_1_B;rw[nth_get (by omega),ob,getI_nat (show i < s.length by omega),ob,h2,chk_ok (by omega) (by omega),ob,chk_ok (by omega) (by omega),ob,chk_ok (by omega) (by omega),ob,remI_ok (by omega),ob,setI_nat (by omega),ob,tmod_pos (by omega)]
  congr 3
  exact Cg.emod ⟨nth o i,by grind⟩
theorem F134_eq{p:Int}{w:Nat}(hp:2≤p∧p≤7){R:List (List Int)}(hR:Red p w R){v:List Int}(hv:VecOK p w v)(hw:w≤1048576)(hn:R.length≤1048576):F134 p R v=some (rest p R v):=by
 have hp0:0 < p:=by omega
 unfold F134;rw[F94_eq (by rw[hv.len]; exact hw),ob];have key:∀i,i≤R.length→VecOK p w (rest p (R.take i) v):=fun i _=> rest_ok hp0 (fun r hr=> hR.ok r (List.mem_of_mem_take hr)) hv;obtain⟨t,g1,g2⟩:=forR_inv (B:=F134_1_B p R) (D:=F134_1_D p R) R.length rfl (by omega) (fun i s=> s=rest p (R.take i) v) (fun t=> t=rest p R v) (s:=v) rfl (by
  rintro i s hi rfl;left;refine⟨_,?_,rfl⟩;have hk:=key i (by omega);have hm:=List.getElem_mem hi;have hok:=hR.ok _ hm;have hone:=hR.one _ hm;unfold F134_1_B;rw[getI_nat hi,ob,F81_ld (by rw[hok.len]; exact hw),if_pos (by rw[hok.len]; exact hone.1),ob,nth_get (by rw[hk.len]; exact hone.1),ob,F136_eq hp (hk.rng _ hone.1) hk hok hw,ob]
  congr 2
  rw[←List.take_append_getElem hi];unfold rest;rw[List.foldl_append]; rfl) (by
  rintro s rfl;exact⟨_,rfl,by rw[List.take_length]⟩)
 rw[g1,ob,g2]
theorem ins_cons{p:Int}{own:List Int}{a:Nat}{o:List Int}{out:List (List Int)}:ins p own a (o::out)=if a < ld o then own::insF p own a o::out.map (insF p own a)else insF p own a o::ins p own a out:=rfl
theorem F131_3_eq{p:Int}{w a:Nat}(hp:2≤p∧p≤7){out:List (List Int)}{own:List Int}(hR:Red p w out)(n:New p w out own a)(hw:w≤1048576)(hn:out.length≤1000000):
  ∃nx put,forR 0 (out.length:Int) (F131_3_B p out own a) F131_3_D ([],false)=some (nx,put)∧(if put=true then nx else nx++[own])=ins p own a out∧nx.length≤2000000:=by
 obtain⟨t,g1,g2,g3⟩:=forR_inv (B:=F131_3_B p out own a) (D:=F131_3_D) out.length rfl (by omega) (fun i s=> s.1.length≤2*i∧(s.2=true→s.1++(out.drop i).map (insF p own a)=ins p own a out)∧(s.2=false→s.1++ins p own a (out.drop i)=ins p own a out))
  (fun t=>(if t.2=true then t.1 else t.1++[own])=ins p own a out∧t.1.length≤2000000) (s:=([],false)) ⟨by simp,by simp,by simp⟩ (by
  rintro i ⟨nx,put⟩ hi ⟨p1,p2,p3⟩;simp only at p1 p2 p3;left;have hm:=List.getElem_mem hi;have hok:=hR.ok _ hm;have hone:=hR.one _ hm;have hr:=hok.rng a n.lt;have hq:F136 p out[i] own (nth out[i] a)=some (insF p own a out[i]):=F136_eq hp hr hok n.ok hw;rw[List.drop_eq_getElem_cons hi]at p2 p3;unfold F131_3_B F131_3_C;simp only;cases put with
  |true=>
   have e:=p2 rfl;rw[if_pos rfl,ob,if_neg Bool.false_ne_true,ob,getI_nat hi,ob,nth_get (by rw[hok.len]; exact n.lt),ob,hq,ob,app_ok (by simp; omega) (by simp; omega),ob];exact⟨_,rfl,by simp; omega,fun _=> by rw[←e]; simp only[List.map_cons,List.append_assoc,List.cons_append,List.nil_append],fun h=> by cases h⟩
  |false=>
   have e:=p3 rfl;rw[if_neg Bool.false_ne_true,getI_nat hi,ob,F81_ld (by rw[hok.len]; exact hw),if_pos (by rw[hok.len]; exact hone.1),ob,ob];by_cases h:a < ld out[i]
   ·have hd:decide ((a:Int) < (ld out[i]:Int))=true:=by simpa using h
    rw[ins_cons,if_pos h]at e;rw[hd,if_pos rfl,app_ok (by simp; omega) (by simp; omega),ob,ob,ob,nth_get (by rw[hok.len]; exact n.lt),ob,hq,ob,app_ok (by simp; omega) (by simp; omega),ob];exact⟨_,rfl,by simp; omega,fun _=> by rw[←e]; simp only[List.map_cons,List.append_assoc,List.cons_append,List.nil_append],fun h=> by cases h⟩
   ·have hd:decide ((a:Int) < (ld out[i]:Int))=false:=by simpa using h
    rw[ins_cons,if_neg h]at e;rw[hd,if_neg Bool.false_ne_true,ob,ob,nth_get (by rw[hok.len]; exact n.lt),ob,hq,ob,app_ok (by simp; omega) (by simp; omega),ob];exact⟨_,rfl,by simp; omega,(fun h=> by cases h),fun _=> by rw[←e]; simp only[List.append_assoc,List.cons_append,List.nil_append]⟩) (by
  rintro⟨nx,put⟩ ⟨p1,p2,p3⟩;simp only at p1 p2 p3;refine⟨_,rfl,?_,by simp only; omega⟩;rw[List.drop_length]at p2 p3;cases put with
  |true=> simpa using p2 rfl
  |false=> simpa[ins]using p3 rfl)
 exact⟨t.1,t.2,g1,g2,g3⟩
theorem F131_ech{p:Int}{w:Nat}(hp:IsP p){rows:List (List Int)}(hr:Rows p w rows)(hw:w≤1048576)(hn:rows.length≤1000000):∃out,F131 p rows=some out∧EchOf p w rows out:=by
 have hpr:=hp.range;have hp1:1 < p:=by omega
 obtain⟨t,g1,g2,g3⟩:=forR_inv (B:=F131_1_B p rows) (D:=F131_1_D) rows.length rfl (by omega) (fun i s=> EchOf p w (rows.take i) s∧s.length≤i) (fun t=> EchOf p w rows t∧t.length≤rows.length) (s:=[]) ⟨.nil p w,Nat.le_refl _⟩ (by
  rintro i out hi ⟨p1,p2⟩;left;have hrow:=hr _ (List.getElem_mem hi);have hrt:Rows p w (rows.take i):=fun r h=> hr r (List.mem_of_mem_take h);have hrest:=rest_ok (show 0 < p by omega) p1.red.ok hrow;have hl:¬(ld (rest p out rows[i]) < w)∨ld (rest p out rows[i]) < w:=by omega
  unfold F131_1_B;rw[getI_nat hi,ob,F134_eq hpr p1.red hrow hw (by omega),ob,F81_ld (by rw[hrest.len]; exact hw),ob,hrest.len];rcases hl with hl|hl
  ·rw[if_neg hl,if_pos (by decide)]
   refine⟨out,rfl,?_,by omega⟩;rw[←List.take_append_getElem hi];exact p1.skip hp1 hrt hrow fun j hj=> ld_zero (by omega)
  ·rw[if_pos hl,if_neg (by omega)]
   have hne:=ld_ne (r:=rest p out rows[i]) (by rw[hrest.len]; exact hl);have hrg:=hrest.rng _ hl;obtain⟨k,k1,k2,k3,k4⟩:=F135_eq hp (x:=nth (rest p out rows[i]) (ld (rest p out rows[i]))) (by omega) hrg.2;have n:=p1.new hp1 hrow hl (fun j hj=> ld_zero hj) k4;obtain⟨nx,put,q1,q2,q3⟩:=F131_3_eq hpr p1.red n hw (by omega);have hlen:((rest p out rows[i]).length:Int)=(w:Int):=by rw[hrest.len]
   have hsc:=scl_loop hpr ⟨k2,k3⟩ hrest hw (B:=F131_2_B p k) (D:=F131_2_D) (fun i row=> rfl) (fun i s=> rfl);have hput:=p1.put hp1 hrt hrow hl (fun j hj=> ld_zero hj) k4;rw[List.take_append_getElem hi]at hput;rw[nth_get (by rw[hrest.len]; exact hl),ob,k1,ob,←hlen,hsc,ob,q1,ob];simp only;cases put with
   |true=>
    rw[if_pos rfl]at q2 ⊢;rw[q2];exact⟨_,rfl,hput,by rw[ins_len]; omega⟩
   |false=>
    rw[if_neg Bool.false_ne_true]at q2 ⊢;rw[app_ok (by simp; omega) (by simp; omega),ob,q2];exact⟨_,rfl,hput,by rw[ins_len]; omega⟩) (by
  rintro out ⟨p1,p2⟩;rw[List.take_length]at p1;exact⟨_,rfl,p1,p2⟩)
 exact⟨t,g1,g2⟩
theorem F128_first{l:List (List Int)}{f:List Int→Option Bool}(P:List Int→Bool)(hl:l.length≤1048576)(hf:∀x∈l,f x=some (P x)):∃i:Int,F128 l f=some i∧((i= -1∧∀x∈l,P x=false)∨∃m:Nat,i=m∧m < l.length∧P (rowAt l m)=true):=by
 unfold F128;obtain⟨t,h1,h2⟩:=forR_inv (B:=F128_1_B l f) (D:=F128_1_D l f) (hi:=l.length) l.length rfl (by omega) (fun i _=>∀k (hk:k < i) (h2:k < l.length),P l[k]=false) (fun t=>(t= .inl ()∧∀x∈l,P x=false)∨∃m:Nat,t= .inr (m:Int)∧m < l.length∧P (rowAt l m)=true) (s:=()) (fun k hk=> by omega) (by
  intro i _ hi hI;unfold F128_1_B;rw[getI_nat hi,ob,hf _ (List.getElem_mem hi),ob];cases hp:P l[i]with
  |true=> right; exact⟨_,rfl,.inr ⟨i,rfl,hi,by rw[rowAt_lt hi]; exact hp⟩⟩
  |false=>
   left;refine⟨(),rfl,fun k hk h2=>?_⟩;by_cases e:k=i
   ·subst e; exact hp
   ·exact hI k (by omega) h2) (by
  intro _ hI;refine⟨.inl (),rfl,.inl ⟨rfl,fun x hx=>?_⟩⟩;obtain⟨k,hk,rfl⟩:=List.getElem_of_mem hx;exact hI k hk hk)
 rw[h1,ob];rcases h2 with⟨rfl,h2⟩|⟨m,rfl,h2⟩
 ·exact⟨_,rfl,.inl ⟨rfl,h2⟩⟩
 ·exact⟨_,rfl,.inr ⟨m,rfl,h2⟩⟩
theorem gstep_loop{p:Int}{w c d:Nat}(hp:2≤p∧p≤7){l:List (List Int)}{row:List Int}(hl:Rows p w l)(hd:d < l.length)(hrow:rowAt l d=row)(hc:c < w)(hw:w≤1048576)(hn:l.length≤1000000):
  forR 0 (l.length:Int) (F133_4_B p c d) F133_4_D l=some (gstep p c d row l):=by
 have hdr:=hl _ (row_mem hd);rw[hrow]at hdr;rw[idx_loop (l:=l) (B:=F133_4_B p c d) (D:=F133_4_D) (fun i r=> if i=d then r else subv p r row (nth r c)) (by omega) (fun i hi s hs hk=>?_) (fun i s=> rfl)]
 ·unfold gstep
  congr 1
  have:l.set d row=l:=by
   rw[←hrow,rowAt_lt hd]; exact List.set_getElem_self hd
  rw[this]
 ·have h1:s[i]'(by omega)=l[i]:=by
   have:=hk i;rw[if_neg (Nat.lt_irrefl _),List.getElem?_eq_getElem (by omega),List.getElem?_eq_getElem hi]at this;exact Option.some.inj this
  have h2:s[d]'(by omega)=row:=by
   have:=hk d;rw[List.getElem?_eq_getElem (by omega),List.getElem?_eq_getElem hd]at this;rw[←hrow,rowAt_lt hd];split at this
   ·simpa using this
   ·exact Option.some.inj this
  unfold F133_4_B;by_cases e:i=d
  ·subst e
   rw[if_pos rfl,if_pos rfl,←h1,List.set_getElem_self]
  ·have hr:=hl _ (List.getElem_mem hi)
   have hrc:=hr.rng c hc;rw[if_neg (by omega),if_neg e,getI_nat (show i < s.length by omega),ob,getI_nat (show d < s.length by omega),ob,h1,h2,nth_get (by rw[hr.len]; exact hc),ob,F139_eq hp hrc hr hdr hw,ob,setI_nat (by omega),ob]
theorem F133_ech{p:Int}{w:Nat}(hp:IsP p){rows:List (List Int)}(hr:Rows p w rows)(hw:w≤1048576)(hn:rows.length≤1000000):∃out,F133 p rows=some out∧EchOf p w rows out:=by
 have hpr:=hp.range;have hp1:1 < p:=by omega
 unfold F133;rw[cpy_loop (l:=rows) (B:=F133_1_B rows) (D:=F133_1_D) (by omega) (fun i hi s hs=> by
  unfold F133_1_B;have:=hr _ (List.getElem_mem hi);rw[getI_nat hi,ob,F96_eq (by rw[this.len]; exact hw),ob,app_ok (by simp; omega) (by simp; omega),ob]) (fun i s=> rfl),ob]
 by_cases h0:(rows.length:Int)=0
 ·rw[if_pos h0]
  have:rows=[]:=List.eq_nil_of_length_eq_zero (by omega);subst this;exact⟨_,rfl,.nil p w⟩
 rw[if_neg h0];have hpos:0 < rows.length:=by omega
 have e0:=getI_nat hpos;simp only[Int.natCast_zero]at e0;have hw0:=(hr _ (List.getElem_mem hpos)).len;rw[show(0:Int)=((0:Nat):Int) from rfl,getI_nat hpos,ob];obtain⟨t,g1,g2,g3,g4⟩:=forR_inv (B:=F133_2_B p) (D:=F133_2_D) (hi:=(rows[0].length:Int)) w (by rw[hw0]) (by omega) (fun c s=>∃d:Nat,s.2=d∧d < s.1.length∧s.1.length=rows.length∧GInv p w rows c s.1 d)
  (fun t=> EchOf p w rows (t.1.take t.2.toNat)∧0≤t.2∧t.2≤t.1.length) (s:=(rows,0)) ⟨0,rfl,hpos,rfl,.start hr⟩ (by
  rintro c ⟨l,dd⟩ hc ⟨d,p1,p2,p3,g⟩;simp only at p1 p2 p3 g;subst p1;have hrl:∀x∈l.drop d,(fun r=> F137 r (c:Int)) x=some (!decide (nth x c=0)):=fun x hx=> by
   have hx':=g.ok x (List.mem_of_mem_drop hx);show F137 x c=_;unfold F137;rw[nth_get (by rw[hx'.len]; exact hc),ob]
  obtain⟨at_,a1,a2⟩:=F128_first (fun x=> !decide (nth x c=0)) (l:=l.drop d) (by simp; omega) hrl;unfold F133_2_B;simp only;rw[if_pos ⟨by omega,by omega⟩,Int.toNat_natCast,a1,ob];rcases a2 with⟨rfl,a2⟩|⟨m,rfl,a2,a3⟩
  ·rw[if_pos (by decide)]
   left;refine⟨_,rfl,d,rfl,p2,p3,g.skip hc fun i h1 h2=>?_⟩;have hx:rowAt l i∈l.drop d:=by
    rw[rowAt_lt h2,List.mem_iff_getElem];exact⟨i - d,by simp; omega,by simp[show d+(i - d)=i by omega]⟩
   simpa using a2 _ hx
  ·have hml:m < l.length - d:=by simpa using a2
   have hj:d+m < l.length:=by omega
   have hrm:rowAt (l.drop d) m=rowAt l (d+m):=by rw[rowAt_lt a2,rowAt_lt hj,List.getElem_drop]
   rw[hrm]at a3;have hne:nth (rowAt l (d+m)) c≠0:=by simpa using a3
   have hrj:=g.ok _ (row_mem hj);have hrg:=hrj.rng c hc;obtain⟨k,k1,k2,k3,k4⟩:=F138_eq hp (x:=nth (rowAt l (d+m)) c) (by omega) hrg.2
   -- the swapped list
   have h2l:((l.set d (rowAt l (d+m))).set (d+m) (rowAt l d)).length=l.length:=by simp
   have h2:∀i,i < l.length→rowAt ((l.set d (rowAt l (d+m))).set (d+m) (rowAt l d)) i=rowAt l (if i=d+m then d else if i=d then d+m else i):=fun i hi=> by
    rw[rowAt_lt (by simp; exact hi)];by_cases e:i=d+m
    ·subst e; rw[if_pos rfl]; simp
    ·rw[if_neg e,List.getElem_set_ne (Ne.symm e)]
     by_cases e2:i=d
     ·subst e2; rw[if_pos rfl]; simp
     ·rw[if_neg e2,List.getElem_set_ne (Ne.symm e2),rowAt_lt hi]
   have gp:=g.put hp1 hc (show d≤d+m by omega) hj k4 h2l h2;have hrd:rowAt ((l.set d (rowAt l (d+m))).set (d+m) (rowAt l d)) d=rowAt l (d+m):=by
    rw[h2 d p2];by_cases e:d=d+m
    ·rw[if_pos e,←e]
    ·rw[if_neg e,if_pos rfl]
   generalize hl2:(l.set d (rowAt l (d+m))).set (d+m) (rowAt l d)=l2 at*;have hsc:=scl_loop hpr ⟨k2,k3⟩ hrj hw (B:=F133_3_B p k) (D:=F133_3_D) (fun i row=> rfl) (fun i s=> rfl);have ok2:Rows p w (l2.set d (scl p (rowAt l (d+m)) k)):=fun r hr'=> by
    rcases List.mem_or_eq_of_mem_set hr' with q|q
    ·obtain⟨i,hi,rfl⟩:=mem_row.1 q
     rw[h2 i (by omega)];refine g.ok _ (row_mem ?_);split
     ·exact p2
     ·split
      ·exact hj
      ·omega
    ·rw[q]; exact scl_ok (by omega) hrj k
   have hs3:(l2.set d (scl p (rowAt l (d+m)) k)).length=l.length:=by simp[h2l]
   have hr3:rowAt (l2.set d (scl p (rowAt l (d+m)) k)) d=scl p (rowAt l (d+m)) k:=by rw[rowAt_lt (by omega)]; simp
   have hgl:=gstep_loop hpr ok2 (show d < _ by omega) hr3 hc hw (by omega);have hgs:gstep p c d (scl p (rowAt l (d+m)) k) (l2.set d (scl p (rowAt l (d+m)) k))=gstep p c d (scl p (rowAt l (d+m)) k) l2:=by unfold gstep; rw[List.set_set]
   rw[hgs]at hgl;have hlen4:(gstep p c d (scl p (rowAt l (d+m)) k) l2).length=l.length:=by rw[gstep_len]; exact h2l
   have e1:getI l ((d+m:Nat):Int)=some (rowAt l (d+m)):=by rw[getI_nat hj,rowAt_lt hj]
   have e2:getI l (d:Int)=some (rowAt l d):=by rw[getI_nat p2,rowAt_lt p2]
   have e3:getI l2 (d:Int)=some (rowAt l (d+m)):=by rw[getI_nat (by omega),←rowAt_lt (by omega),hrd]
   rw[if_neg (by omega),chk_ok (by omega) (by omega),ob,show(d:Int)+(m:Int)=((d+m:Nat):Int) by omega,e1,ob,e2,ob,setI_nat p2,ob,setI_nat (by simp; omega),ob,hl2,e3,ob,
    nth_get (by rw[hrj.len]; exact hc),ob,k1,ob,hsc,ob,setI_nat (by omega),ob,hgl,ob,chk_ok (by omega) (by omega),ob]
   by_cases hd1:(d:Int)+1=((gstep p c d (scl p (rowAt l (d+m)) k) l2).length:Int)
   ·right
    rw[if_pos hd1];refine⟨_,rfl,?_,by simp only; omega,by simp only; omega⟩;simp only;rw[show((d:Int)+1).toNat=d+1 by omega];exact gp.done hp1 (.inr (by omega))
   ·left
    rw[if_neg hd1];refine⟨_,rfl,d+1,by simp only; omega,by simp only; have:=gp.dn; omega,by simp only; omega,gp⟩) (by
  rintro⟨l,dd⟩ ⟨d,p1,p2,p3,g⟩;simp only at p1 p2 p3 g;subst p1;refine⟨_,rfl,?_,by simp only; omega,by simp only; omega⟩;simp only;rw[Int.toNat_natCast];exact g.done hp1 (.inl rfl))
 rw[show((0:Nat):Int)=(0:Int) from rfl,g1,ob,if_pos ⟨g3,g4⟩];exact⟨_,rfl,g2⟩
theorem reduce_same{p:Int}{w:Nat}(hp:IsP p){rows:List (List Int)}(hr:Rows p w rows)(hw:w≤1048576)(hn:rows.length≤1000000):∃out,F131 p rows=some out∧F133 p rows=some out∧EchOf p w rows out:=by
 obtain⟨a,a1,a2⟩:=F131_ech hp hr hw hn;obtain⟨b,b1,b2⟩:=F133_ech hp hr hw hn;have:=a2.same (by have:=hp.range; omega) b2;subst this;exact⟨a,a1,b1,a2⟩
theorem F133_self{p:Int}{w:Nat}(hp:IsP p){E:List (List Int)}(h:Red p w E)(hw:w≤1048576)(hn:E.length≤1000000):F133 p E=some E:=by
 obtain⟨X, -,x2,x3⟩:=reduce_same hp h.ok hw hn;rw[x2,x3.same (by have:=hp.range; omega) (EchOf.self h)]
theorem red_len{p:Int}{w:Nat}{E:List (List Int)}(h:Red p w E):E.length≤w:=by
 have h1:=h.leads;have key:∀ (l:List Nat) (b:Nat),l.Pairwise (·< ·)→(∀x∈l,b≤x∧x < w)→l.length+b≤max w b:=by
  intro l;induction l with
  |nil=> intro b _ _; simp; omega
  |cons a l ih=>
   intro b hp hx;obtain⟨p1,p2⟩:=List.pairwise_cons.1 hp;have ha:=hx a List.mem_cons_self;have:=ih (a+1) p2 fun x hx'=>⟨p1 x hx',(hx x (List.mem_cons_of_mem _ hx')).2⟩;simp only[List.length_cons];omega
 have:=key (E.map ld) 0 h1 fun x hx=> by
  obtain⟨r,hr,rfl⟩:=List.mem_map.1 hx;exact⟨Nat.zero_le _,(h.one r hr).1⟩
 simpa using this
theorem set_app_right{r s:List Int}{i:Nat}(x:Int):(r++s).set (r.length+i) x=r++s.set i x:=by
 rw[List.set_append_right _ _ (by omega)]; simp
theorem F125_1_eq{p:Int}{w:Nat}{rows:List (List Int)}(hr:Rows p w rows){x2:List Int}(hx:x2.length=w)(hw:w≤1000)(hn:rows.length≤1000):
  forR 0 (rows.length:Int) (F125_1_B p rows x2) (F125_1_D p rows x2) []=some (longs rows.length rows):=by
 have hl:=longs_len rows.length rows;obtain⟨t,g1,g2⟩:=forR_inv (B:=F125_1_B p rows x2) (D:=F125_1_D p rows x2) rows.length rfl (by omega) (fun i s=> s=(longs rows.length rows).take i) (fun t=> t=longs rows.length rows) (s:=[]) (by simp) (by
  rintro i s hi rfl;left;have hri:=hr _ (List.getElem_mem hi);refine⟨(longs rows.length rows).take (i+1),?_,rfl⟩;unfold F125_1_B appZ;have hz:List.replicate ((rows.length:Int)).toNat (0:Int)=zv rows.length:=by simp[zv]
  have hzl:(zv rows.length).length=rows.length:=by simp[zv]
  have e:((x2.length:Int)+(i:Int))=((rows[i].length+i:Nat):Int):=by rw[hx,hri.len]; omega
  rw[getI_nat hi,ob,F96_eq (by rw[hri.len]; omega),ob,if_pos ⟨by omega,by omega,by omega⟩,hz,app_ok (by rw[hri.len,hzl]; omega) (by rw[hri.len,hzl]; omega),ob,chk_ok (by rw[hx]; omega) (by rw[hx]; omega),ob,e,getI_nat (by rw[List.length_append,hzl]; omega),ob,
   setI_nat (by rw[List.length_append,hzl]; omega),ob,app_ok (by simp; omega) (by simp; omega),ob,set_app_right]
  congr 2
  rw[←List.take_append_getElem (show i < (longs rows.length rows).length by omega),longs_at,rowAt_lt hi];rfl) (by
  rintro s rfl;exact⟨_,rfl,by rw[List.take_of_length_le (by omega)]⟩)
 rw[g1,g2]
theorem F122_1_eq{p:Int}{w:Nat}{rows:List (List Int)}(hr:Rows p w rows)(hw:w≤1000)(hn:rows.length≤1000):
  forR 0 (rows.length:Int) (F122_1_B p rows.length rows) (F122_1_D p rows.length rows) ([],0)=some (longs rows.length rows,if rows.length=0 then 0 else(w:Int)):=by
 have hl:=longs_len rows.length rows;obtain⟨t,g1,g2⟩:=forR_inv (B:=F122_1_B p rows.length rows) (D:=F122_1_D p rows.length rows) rows.length rfl (by omega) (fun i s=> s=((longs rows.length rows).take i,if i=0 then 0 else(w:Int))) (fun t=> t=(longs rows.length rows,if rows.length=0 then 0 else(w:Int))) (s:=([],0)) (by simp) (by
  rintro i s hi rfl;left;have hri:=hr _ (List.getElem_mem hi);refine⟨((longs rows.length rows).take (i+1),if i+1=0 then 0 else(w:Int)),?_,rfl⟩;unfold F122_1_B;simp only;have hzl:(zv rows.length).length=rows.length:=by simp[zv]
  rw[mkL_ok rows.length rfl (by omega) (by omega),ob]
  change (getI (zv rows.length) (i:Int)).bind _=_
  rw[getI_nat (by omega),ob]
  change (setI (zv rows.length) (i:Int) 1).bind _=_
  rw[setI_nat (by omega),ob,getI_nat hi,ob,F94_eq (by rw[hri.len]; omega),ob,app_ok (by simp[zv,hri.len]; omega) (by simp[zv,hri.len]; omega),ob,app_ok (by simp; omega) (by simp; omega),ob,if_neg (by omega),hri.len]
  congr 3
  rw[←List.take_append_getElem (show i < (longs rows.length rows).length by omega),longs_at,rowAt_lt hi];rfl) (by
  rintro s rfl;exact⟨_,rfl,by rw[List.take_of_length_le (by omega)]⟩)
 rw[g1,g2]
theorem tails_take{w i:Nat}{E:List (List Int)}(hi:i < E.length):tails w (E.take (i+1))=if w≤ld E[i]then tails w (E.take i)++[E[i].drop w]else tails w (E.take i):=by
 unfold tails;rw[←List.take_append_getElem hi,List.filter_append,List.map_append];by_cases h:w≤ld E[i]
 ·rw[if_pos h]; simp[h]
 ·rw[if_neg h]; simp[h]
theorem tails_len{w:Nat}{E:List (List Int)}:(tails w E).length≤E.length:=by
 unfold tails;rw[List.length_map]; exact List.length_filter_le _ _
theorem F122_2_eq{p:Int}{w n:Nat}{E:List (List Int)}(h:Red p (w+n) E)(hw:w+n≤10000):
  forR 0 (E.length:Int) (F122_2_B w E) (F122_2_D w E) []=some (tails w E):=by
 have hE:=red_len h;obtain⟨t,g1,g2⟩:=forR_inv (B:=F122_2_B w E) (D:=F122_2_D w E) E.length rfl (by omega) (fun i s=> s=tails w (E.take i)) (fun t=> t=tails w E) (s:=[]) (by simp[tails]) (by
  rintro i s hi rfl;left;have hk:=h.ok _ (List.getElem_mem hi);have ho:=h.one _ (List.getElem_mem hi);have htl:(tails w (E.take i)).length≤10000:=by have:=tails_len (w:=w) (E:=E.take i); simp at this; omega
  refine⟨tails w (E.take (i+1)),?_,rfl⟩;rw[tails_take hi];unfold F122_2_B;rw[getI_nat hi,ob,F81_ld (by rw[hk.len]; omega),if_pos (by rw[hk.len]; exact ho.1),ob];by_cases q:w≤ld E[i]
  ·rw[if_pos (by omega),if_pos q]
   unfold slI;rw[if_pos ⟨by omega,by rw[hk.len]; omega,Int.le_refl _⟩,ob,Int.toNat_natCast,Int.toNat_natCast,List.take_length,F94_eq (by simp[hk.len]; omega),ob,app_ok (by simp; omega) (by simp; omega),ob]
  ·rw[if_neg (by omega),if_neg q]) (by
  rintro s rfl;exact⟨_,rfl,by rw[List.take_length]⟩)
 rw[g1,g2]
theorem isZero_take{r:List Int}{w:Nat}(h:w≤r.length):(∀x∈r.take w,x=0)↔w≤ld r:=by
 constructor
 ·intro hx
  refine Nat.le_of_not_lt fun q=>?_;have hl:ld r < r.length:=by omega
  refine ld_ne hl (by rw[nth_lt hl]; exact hx _ (List.mem_take_iff_getElem.2 ⟨ld r,by omega,rfl⟩))
 ·intro q x hx
  obtain⟨i,hi,rfl⟩:=List.mem_take_iff_getElem.1 hx;have:=ld_zero (r:=r) (j:=i) (by omega)
  rwa[nth_lt (by omega)]at this
theorem F125_2_eq{p:Int}{w n:Nat}{E:List (List Int)}(h:Red p (w+n) E)(hw:w+n≤10000){x2:List Int}(hx:x2.length=w):
  forR 0 (E.length:Int) (F125_2_B p x2 E) (F125_2_D p x2 E) []=some (tails w E):=by
 have hE:=red_len h;obtain⟨t,g1,g2⟩:=forR_inv (B:=F125_2_B p x2 E) (D:=F125_2_D p x2 E) E.length rfl (by omega) (fun i s=> s=tails w (E.take i)) (fun t=> t=tails w E) (s:=[]) (by simp[tails]) (by
  rintro i s hi rfl;left;have hk:=h.ok _ (List.getElem_mem hi);have ho:=h.one _ (List.getElem_mem hi);have htl:(tails w (E.take i)).length≤10000:=by have:=tails_len (w:=w) (E:=E.take i); simp at this; omega
  refine⟨tails w (E.take (i+1)),?_,rfl⟩;rw[tails_take hi];unfold F125_2_B slI;rw[getI_nat hi,ob,hx,if_pos ⟨by omega,by omega,by rw[hk.len]; omega⟩,ob,Int.toNat_natCast,Int.toNat_zero,List.drop_zero];rcases((F92_tells (l:=E[i].take w) (by simp; omega)).iff (isZero_take (by rw[hk.len]; omega))).case with⟨e,q⟩|⟨e,q⟩
  ·rw[e,ob,if_pos rfl,if_pos q,if_pos ⟨by omega,by rw[hk.len]; omega,Int.le_refl _⟩,ob,Int.toNat_natCast,List.take_length,app_ok (by simp; omega) (by simp; omega),ob]
  ·rw[e,ob,if_neg Bool.false_ne_true,if_neg q]) (by
  rintro s rfl;exact⟨_,rfl,by rw[List.take_length]⟩)
 rw[g1,g2]
theorem kernel_same{p:Int}{w:Nat}(hp:IsP p){rows:List (List Int)}(hr:Rows p w rows)(hw:w≤1000)(hn:rows.length≤1000):∃K,F122 p rows.length rows=some K∧F125 p rows=some K∧Red p rows.length K:=by
 have hp1:1 < p:=by have:=hp.range; omega
 unfold F122 F125;rw[F122_1_eq hr hw hn,ob];simp only;by_cases h0:rows.length=0
 ·have:rows=[]:=List.eq_nil_of_length_eq_zero h0
  subst this;have e:(longs ([]:List (List Int)).length [])=[]:=by simp[longs]
  obtain⟨E,e1, -,e3⟩:=reduce_same hp (rows:=[]) (w:=0+0) (fun r h=>(nomatch h)) (by omega) (by simp);have hE:E=[]:=List.eq_nil_of_length_eq_zero (by have:=red_len e3.red; omega);subst hE;rw[e,e1,ob,if_pos (by simp),if_pos (by simp)];have:=F122_2_eq (w:=0) (n:=0) e3.red (by omega);have h2:forR 0 ((([]:List (List Int)).length:Nat):Int) (F122_2_B 0 []) (F122_2_D 0 []) []=some []:=this;rw[h2];exact⟨[],rfl,rfl,⟨fun r h=>(nomatch h),fun r h=>(nomatch h),.nil⟩⟩
 ·rw[if_neg h0,if_neg (by omega)]
  obtain⟨E,e1,e2,e3⟩:=reduce_same hp (longs_ok hp1 hr) (by omega) (by rw[longs_len]; omega);have hpos:0 < rows.length:=by omega
  have hx0:=(hr _ (List.getElem_mem hpos)).len;have ht:=tails_red e3.red;rw[show(0:Int)=((0:Nat):Int) from rfl,getI_nat hpos,ob,show((0:Nat):Int)=(0:Int) from rfl,e1,ob,F122_2_eq e3.red (by omega),ob,F125_1_eq hr hx0 hw hn,ob,e2,ob,F125_2_eq e3.red (by omega) hx0,ob,F133_self hp ht (by omega) (by have:=red_len ht; omega),ob];exact⟨_,rfl,rfl,ht⟩
theorem RowOK.vec{p w:Int}{row:List Int}(h:RowOK p w row):VecOK p w.toNat row:=by
 have h1:=h.1;refine⟨by omega,fun j hj=>?_⟩;have hj':j < row.length:=by omega
 rw[nth_lt hj'];have:=h.2 _ (List.getElem_mem hj');omega
theorem ValidC.dim{x:GComplex}(h:ValidC x){n:Nat}(hn:n < x.Dims.length):0≤x.Dims.getD n 0∧x.Dims.getD n 0≤8:=h.dims _ (getD_mem hn 0)
theorem F99_at{x:GComplex}(hs:x.Dims.length≤1048576){n:Nat}(hn:n < x.Dims.length):F99 x (n:Int)=some (x.Dims.getD n 0):=by
 unfold F99;rw[chk_ok (by omega) (by omega),ob,F54_eq,ob,if_pos (by simp; omega),getI_getD hn 0,ob]
theorem F102_at{x:GComplex}(hs:x.Dims.length≤1048576){n:Nat}(hn:n < x.Dims.length):F102 x (n:Int)=some (x.Dims.getD n 0):=by
 unfold F102;rw[F86_eq hs,ob,F56_eq,ob,if_pos (by simp; omega),getI_getD hn 0,ob]
theorem F124_eq{n:Nat}(hn:n≤1000):F124 (n:Int)=some (units n):=by
 unfold F124;have hl:=units_len n;obtain⟨t,g1,g2⟩:=forR_inv (B:=F124_1_B (n:Int)) (D:=F124_1_D (n:Int)) n rfl (by omega) (fun i s=> s=(units n).take i) (fun t=> t=units n) (s:=[]) (by simp) (by
  rintro i s hi rfl;left;refine⟨(units n).take (i+1),?_,rfl⟩;have hzl:(zv n).length=n:=by simp[zv]
  unfold F124_1_B F132;rw[mkL_ok n rfl (by omega) (by omega),ob]
  change (((getI (zv n) (i:Int)).bind _).bind _=_)
  rw[getI_nat (by omega),ob]
  change (((setI (zv n) (i:Int) 1).bind _).bind _=_)
  rw[setI_nat (by omega),ob,ob,app_ok (by simp; omega) (by simp; omega),ob]
  congr 2
  rw[←List.take_append_getElem (show i < (units n).length by omega)]
  congr 2
  simp[units,unitv]) (by
  rintro s rfl;exact⟨_,rfl,by rw[List.take_of_length_le (by omega)]⟩)
 rw[g1,ob,g2]
theorem kernel_none{p:Int}(hp:IsP p){n:Nat}(hn:n≤1000):F122 p (n:Int) (List.replicate n [])=some (units n):=by
 have hp1:1 < p:=by have:=hp.range; omega
 have hr:Rows p 0 (List.replicate n ([]:List Int)):=fun r hr=> by
  obtain⟨_,rfl⟩:=List.mem_replicate.1 hr;exact⟨rfl,fun j hj=> absurd hj (Nat.not_lt_zero _)⟩
 have hl:(List.replicate n ([]:List Int)).length=n:=by simp
 have e0:=F122_1_eq hr (by omega) (by omega);rw[hl]at e0;have hlong:longs n (List.replicate n ([]:List Int))=units n:=by
  unfold longs units;refine List.map_congr_left fun i hi=>?_;have:i < n:=List.mem_range.1 hi;simp[rowAt,this]
 have hu:=units_red hp1 n;obtain⟨E,e1, -,e3⟩:=reduce_same hp hu.ok (by omega) (by rw[units_len]; omega);have hE:=e3.same hp1 (EchOf.self hu);subst hE;have ht:tails 0 (units n)=units n:=by
  unfold tails;rw[List.filter_eq_self.2 (fun r _=> by simp)]
  conv=> rhs; rw[←List.map_id (units n)]
  exact List.map_congr_left fun r _=> rfl
 have h2:=F122_2_eq (w:=0) (n:=n) (by rw[Nat.zero_add]; exact hu) (by omega);rw[ht]at h2;have h2':forR 0 ((units n).length:Int) (F122_2_B 0 (units n)) (F122_2_D 0 (units n)) []=some (units n):=h2;unfold F122;rw[e0,ob];have hz:(if n=0 then(0:Int)else((0:Nat):Int))=0:=by split <;> rfl
 simp only;rw[hz,hlong,e1,ob,h2',ob]
theorem F76_0{x:GComplex}(hs:x.Dims.length≤1048576)(hl:0 < x.Dims.length){n:Nat}(hn:x.Dims.getD 0 0=n)(hn8:n≤1000):F76 x 0=some (List.replicate n []):=by
 unfold F76;rw[chk_ok (by omega) (by omega),ob,F54_eq,ob,if_neg (by simp)];have h99:F99 x 0=some (n:Int):=by have:=F99_at hs hl; rw[hn]at this; exact this
 obtain⟨t,g1,g2⟩:=loopW_inv (S:=F76_1_S x 0) (fun s=>(n - s.2).toNat) (fun s=> 0≤s.2∧s.2≤n∧s.1=List.replicate s.2.toNat []) (fun t=> t=List.replicate n []) (s:=([],0)) ⟨Int.le_refl _,by omega,rfl⟩ (by
  rintro⟨l,j⟩ ⟨p1,p2,p3⟩;simp only at p1 p2 p3;subst p3;unfold F76_1_S;simp only;rw[h99,ob];by_cases hj:j < (n:Int)
  ·left
   rw[if_pos hj,app_ok (by simp; omega) (by simp; omega),ob,chk_ok (by omega) (by omega),ob];refine⟨_,rfl,⟨by simp only; omega,by simp only; omega,?_⟩,by simp only; omega⟩;simp only;rw[show(j+1).toNat=j.toNat+1 from by omega,List.replicate_succ']
  ·right
   rw[if_neg hj];have:j.toNat=n:=by omega
   rw[this];exact⟨_,rfl,rfl⟩)
 rw[g1,ob,g2]
theorem cycles_same{x:GComplex}(hx:SmallC x)(h:ValidC x){n:Nat}(hn:n < x.Dims.length):∃K,F98 x (n:Int)=some K∧F100 x (n:Int)=some K∧Red x.Prime (x.Dims.getD n 0).toNat K:=by
 have hp1:1 < x.Prime:=by have:=h.p.range; omega
 have hd:=h.dim hn;have hml:=h.ml;have hxd:=hx.d;unfold F98 F100;rw[F99_at hx.d hn,ob];rcases Nat.eq_zero_or_pos n with h0|h0
 ·subst h0
  have hdn:x.Dims.getD 0 0=((x.Dims.getD 0 0).toNat:Int):=by omega
  rw[if_pos (by omega),show((0:Nat):Int)=0 from rfl,F76_0 hx.d hn hdn (by omega),ob,hdn,Int.toNat_natCast,kernel_none h.p (by omega),ob];have h102:=F102_at hx.d hn;rw[hdn]at h102;rw[show(0:Int)=((0:Nat):Int) from rfl,h102,ob,F124_eq (by omega),ob];exact⟨_,rfl,rfl,units_red hp1 _⟩
 ·obtain⟨k,rfl⟩:∃k,n=k+1:=⟨n - 1,by omega⟩
  have hk:k < x.Maps.length:=by omega
  have ht:=h.tab k hk;have hdk:=h.dim (show k < x.Dims.length by omega);have e1:getI x.Maps (k:Int)=some (x.Maps.getD k []):=getI_getD hk [];have hr:Rows x.Prime (x.Dims.getD k 0).toNat (x.Maps.getD k []):=fun r hr=>(ht.2 r hr).vec;have h76:F76 x ((k+1:Nat):Int)=some (x.Maps.getD k []):=by
   unfold F76;rw[chk_ok (by omega) (by omega),ob,F54_eq,ob,if_pos (by simp; omega),chk_ok (by omega) (by omega),ob,show((k+1:Nat):Int) - 1=(k:Int) by omega,e1,ob]
  have hlen:=ht.1;obtain⟨K,k1,k2,k3⟩:=kernel_same h.p hr (by omega) (by omega);rw[h76,ob,←hlen,k1,ob,if_neg (by omega),F86_eq hx.d,ob,if_neg (by omega),chk_ok (by omega) (by omega),ob,show((k+1:Nat):Int) - 1=(k:Int) by omega,e1,ob,k2,ob,Int.toNat_natCast];exact⟨_,rfl,rfl,k3⟩
theorem lin_at{p:Int}{n:Nat}{v:List Int}{m:List (List Int)}(H:LinOK p n v m){j:Nat}(hj:j < n):Cg p (nth (lin p n v m) j) (dot (nth v) m v.length j):=by
 have key:∀i,i≤v.length→Cg p (nth (linN p n v m i) j) (dot (nth v) m i j):=by
  intro i;induction i with
  |zero=> intro _; simp only[linN]; rw[show nth (List.replicate n (0:Int)) j=0 from nth_zv n j]; exact .refl _ _
  |succ i ih=>
   intro hi;obtain⟨h1,h2⟩:=linN_ok H i (by omega);have hm:i < m.length:=by have:=H.hl; omega
   have hr:=H.hr _ (List.getElem_mem hm);have e1:v.getD i 0=v[i]:=by simp[show i < v.length by omega]
   have e2:m.getD i []=m[i]:=by simp[hm]
   have hx:=H.hv _ (List.getElem_mem (show i < v.length by omega));have ho:=h2 _ (List.getElem_mem (show j < (linN p n v m i).length by omega));have hy:=hr.2 _ (List.getElem_mem (show j < m[i].length by omega));obtain⟨-, -,t1, -⟩:=small_mul H.hp hx hy ho;have e3:nth (linN p n v m (i+1)) j=((linN p n v m i)[j]+v[i]*(m[i])[j]).tmod p:=by
    simp only[linN,e1,e2];rw[nth_lt (by unfold addRow; rw[List.length_zipWith,h1,hr.1]; omega)];simp[addRow]
   have h0:0≤(linN p n v m i)[j]+v[i]*(m[i])[j]:=by have:=Int.mul_nonneg hx.1 hy.1; omega
   rw[e3,Int.tmod_eq_emod_of_nonneg h0];refine(Cg.mod _ _).trans ?_;show Cg p _ (sumI _ (i+1));unfold sumI;refine .add ?_ ?_
   ·have:=ih (by omega)
    rwa[nth_lt (by omega)]at this
   ·rw[nth_lt (show i < v.length by omega),rowAt_lt hm,nth_lt (show j < m[i].length by omega)]; exact .refl _ _
 exact key v.length (Nat.le_refl _)
theorem Tells.and_then{o k:Option Bool}{P Q:Prop}(T:Tells o P)(hk:P→Tells k Q):Tells (o.bind fun b=> if b=true then k else some false) (P∧Q):=by
 rcases T.case with⟨e,q⟩|⟨e,q⟩
 ·rw[e,ob,if_pos rfl]
  exact(hk q).iff ⟨fun h=>⟨q,h⟩,fun h=> h.2⟩
 ·rw[e,ob,if_neg Bool.false_ne_true]
  exact .of_false rfl fun h=> q h.1
def LTells(o:Option (Unit⊕(Unit⊕Bool)))(P:Prop):Prop:=∃b:Bool,o=some (if b=true then .inl ()else .inr (.inr false))∧(b=true↔P)
theorem LTells.iff{o:Option (Unit⊕(Unit⊕Bool))}{P Q:Prop}(h:LTells o P)(e:P↔Q):LTells o Q:=by
 obtain⟨b,h1,h2⟩:=h; exact⟨b,h1,h2.trans e⟩
theorem LTells.yes:LTells (some (.inl ())) True:=⟨true,rfl,by simp⟩
theorem Tells.then_L{o:Option Bool}{k:Option (Unit⊕(Unit⊕Bool))}{P Q:Prop}(T:Tells o P)(hk:P→LTells k Q):LTells (o.bind fun b=> if b=true then k else some (.inr (.inr false))) (P∧Q):=by
 rcases T.case with⟨e,q⟩|⟨e,q⟩
 ·rw[e,ob,if_pos rfl]
  exact(hk q).iff ⟨fun h=>⟨q,h⟩,fun h=> h.2⟩
 ·rw[e,ob,if_neg Bool.false_ne_true]
  exact⟨false,rfl,by simp only[Bool.false_eq_true,false_iff]; exact fun h=> q h.1⟩
theorem LTells.ite{a b:Int}{k:Option (Unit⊕(Unit⊕Bool))}{Q:Prop}(hk:a=b→LTells k Q):LTells (if a=b then k else some (.inr (.inr false))) (a=b∧Q):=by
 by_cases c:a=b
 ·rw[if_pos c]; exact(hk c).iff ⟨fun h=>⟨c,h⟩,fun h=> h.2⟩
 ·rw[if_neg c]; exact⟨false,rfl,by simp[c]⟩
def WTells(o:Option (Int⊕(Unit⊕Bool)))(i:Int)(P:Prop):Prop:=∃b:Bool,o=some (if b=true then .inl (i+1)else .inr (.inr false))∧(b=true↔P)
theorem WTells.iff{o:Option (Int⊕(Unit⊕Bool))}{i:Int}{P Q:Prop}(h:WTells o i P)(e:P↔Q):WTells o i Q:=by
 obtain⟨b,h1,h2⟩:=h; exact⟨b,h1,h2.trans e⟩
theorem WTells.yes{i:Int}:WTells (some (.inl (i+1))) i True:=⟨true,rfl,by simp⟩
theorem Tells.then_W{o:Option Bool}{k:Option (Int⊕(Unit⊕Bool))}{i:Int}{P Q:Prop}(T:Tells o P)(hk:P→WTells k i Q):WTells (o.bind fun b=> if b=true then k else some (.inr (.inr false))) i (P∧Q):=by
 rcases T.case with⟨e,q⟩|⟨e,q⟩
 ·rw[e,ob,if_pos rfl]
  exact(hk q).iff ⟨fun h=>⟨q,h⟩,fun h=> h.2⟩
 ·rw[e,ob,if_neg Bool.false_ne_true]
  exact⟨false,rfl,by simp only[Bool.false_eq_true,false_iff]; exact fun h=> q h.1⟩
theorem all_for{n:Nat}{B:Int→Unit→Option (Unit⊕(Unit⊕Bool))}{D:Int→Unit→Option (Unit⊕Bool)}(P:Nat→Prop)(hn:n≤1000000)(hB:∀i:Nat,i < n→LTells (B i ()) (P i))(hD:∀i,D i ()=some (.inl ())):
  ∃b:Bool,forR 0 (n:Int) B D ()=some (if b=true then .inl ()else .inr false)∧(b=true↔∀i,i < n→P i):=by
 obtain⟨t,h1,b,h2,h3⟩:=forR_inv (B:=B) (D:=D) n rfl (by omega) (fun i _=>∀k,k < i→P k) (fun t=>∃b:Bool,t=(if b=true then .inl ()else .inr false)∧(b=true↔∀i,i < n→P i)) (s:=()) (fun k hk=> by omega) (by
  rintro i _ hi hI;obtain⟨b,e,q⟩:=hB i hi;cases b with
  |true=>
   left;refine⟨(),e,fun k hk=>?_⟩;by_cases c:k=i
   ·subst c; exact q.1 rfl
   ·exact hI k (by omega)
  |false=>
   right;refine⟨.inr false,e,false,rfl,?_⟩;simp only[Bool.false_eq_true,false_iff];intro h;have:=q.2 (h i hi);cases this) (by
  rintro _ hI;exact⟨.inl (),hD _,true,rfl,by simp only[true_iff]; exact hI⟩)
 subst h2;exact⟨b,h1,h3⟩
theorem all_W{n:Nat}{S:Int→Option (Int⊕(Unit⊕Bool))}(P:Nat→Prop)(hS:∀i:Nat,i < n→WTells (S i) i (P i))(hE:S n=some (.inr (.inl ()))):
  ∃b:Bool,loopW S 0=some (if b=true then .inl ()else .inr false)∧(b=true↔∀i,i < n→P i):=by
 obtain⟨t,h1,b,h2,h3⟩:=loopW_inv (S:=S) (fun j=>(n - j).toNat) (fun j=>∃i:Nat,j=i∧i≤n∧∀k,k < i→P k) (fun t=>∃b:Bool,t=(if b=true then .inl ()else .inr false)∧(b=true↔∀i,i < n→P i)) (s:=0) ⟨0,rfl,Nat.zero_le _,fun k hk=> by omega⟩ (by
  rintro _ ⟨i,rfl,hi,hI⟩;by_cases hlt:i < n
  ·obtain⟨b,e,q⟩:=hS i hlt
   cases b with
   |true=>
    left;refine⟨(i:Int)+1,e,⟨i+1,by simp,hlt,fun k hk=>?_⟩,by omega⟩;by_cases c:k=i
    ·subst c; exact q.1 rfl
    ·exact hI k (by omega)
   |false=>
    right;refine⟨.inr false,e,false,rfl,?_⟩;simp only[Bool.false_eq_true,false_iff];intro h;have:=q.2 (h i hlt);cases this
  ·right
   have:i=n:=by omega
   subst this;exact⟨.inl (),hE,true,rfl,by simp only[true_iff]; exact hI⟩)
 subst h2;exact⟨b,h1,h3⟩
theorem F285_tells{l:List Int}(hl:l.length≤1000):Tells (F285 l) (∀x∈l,x=0):=by
 unfold F285;obtain⟨b,h1,h2⟩:=all_for (B:=F285_1_B l) (D:=F285_1_D l) (fun i=> nth l i=0) (show l.length≤1000000 by omega) (fun i hi=> by
  unfold F285_1_B;rw[nth_get hi,ob];exact(LTells.ite fun _=> .yes).iff (by simp)) fun i=> rfl
 rw[h1,ob];have e:(∀i,i < l.length→nth l i=0)↔∀x∈l,x=0:=⟨fun h x hx=> by
  obtain⟨i,hi,rfl⟩:=List.getElem_of_mem hx;have:=h i hi
  rwa[nth_lt hi]at this,fun h i hi=> by rw[nth_lt hi]; exact h _ (List.getElem_mem hi)⟩
 cases b with
 |true=> exact .of_true rfl (e.1 (h2.1 rfl))
 |false=> exact .of_false rfl fun h=> by have:=h2.2 (e.2 h); cases this
theorem same_iff{a b:List Int}(h:a.length=b.length):(∀i,i < a.length→nth a i=nth b i)↔a=b:=⟨fun q=> nth_ext h q,fun q i _=> by rw[q]⟩
theorem F287_tells{a b:List Int}(ha:a.length≤1000):Tells (F287 a b) (a=b):=by
 unfold F287;by_cases c:(a.length:Int)=b.length
 case neg=> rw[if_neg c]; exact .of_false rfl fun h=> c (by rw[h])
 rw[if_pos c];obtain⟨b',h1,h2⟩:=all_for (B:=F287_1_B a b) (D:=F287_1_D a b) (fun i=> nth a i=nth b i) (show a.length≤1000000 by omega) (fun i hi=> by
  unfold F287_1_B;rw[nth_get hi,ob,nth_get (show i < b.length by omega),ob];exact(LTells.ite fun _=> .yes).iff (by simp)) fun i=> rfl
 rw[h1,ob];have e:=same_iff (a:=a) (b:=b) (by omega);cases b' with
 |true=> exact .of_true rfl (e.1 (h2.1 rfl))
 |false=> exact .of_false rfl fun h=> by have:=h2.2 (e.2 h); cases this
theorem F165_tells{a b:List Int}(ha:a.length≤1000):Tells (F165 a b) (a=b):=F287_tells ha
theorem F272_eq{n i:Nat}(hi:i < n)(hn:n≤1000):F272 (n:Int) (i:Int)=some (unitv n i):=by
 unfold F272;rw[mkL_ok n rfl (by omega) (by omega),ob]
 change ((getI (zv n) (i:Int)).bind _)=_
 rw[getI_nat (by simpa[zv]using hi),ob]
 change ((setI (zv n) (i:Int) 1).bind _)=_
 rw[setI_nat (by simpa[zv]using hi),ob];rfl
def SumP(p:Int)(w:Nat)(v u s t:List Int):Prop:=∀j,j < w→Cg p (nth v j - nth u j - nth s j - nth t j) 0
theorem cg_zero{p x:Int}(hp:0 < p):Cg p x 0↔x% p=0:=by
 constructor
 ·rintro⟨m,e⟩
  have:x=p*m:=by omega
  rw[this]; exact Int.mul_emod_right p m
 ·intro h
  exact⟨x/p,by have:=Int.emod_add_mul_ediv x p; omega⟩
theorem F312_tells{p:Int}{w:Nat}(hp:IsP p)(hw:w≤1000){v u s t:List Int}(hv:VecOK p w v)(hu:VecOK p w u)(hs:VecOK p w s)(ht:VecOK p w t):Tells (F312 p v u s t) (SumP p w v u s t):=by
 have hr:=hp.range;have hvl:=hv.len;unfold F312;obtain⟨b',h1,h2⟩:=all_for (B:=F312_1_B p v u s t) (D:=F312_1_D p v u s t) (fun j=> Cg p (nth v j - nth u j - nth s j - nth t j) 0) (show v.length≤1000000 by omega) (fun j hj=> by
  have hjw:j < w:=by omega
  have a1:=hv.rng j hjw;have a2:=hu.rng j hjw;have a3:=hs.rng j hjw;have a4:=ht.rng j hjw;unfold F312_1_B;rw[nth_get hj,ob,nth_get (by rw[hu.len]; exact hjw),ob,chk_ok (by omega) (by omega),ob,nth_get (by rw[hs.len]; exact hjw),ob,chk_ok (by omega) (by omega),ob,nth_get (by rw[ht.len]; exact hjw),ob,chk_ok (by omega) (by omega),ob,F127_eq hr,ob];exact(LTells.ite fun _=> .yes).iff (by rw[cg_zero (by omega)]; simp)) fun i=> rfl
 rw[h1,ob];have e:(∀i,i < v.length→Cg p (nth v i - nth u i - nth s i - nth t i) 0)↔SumP p w v u s t:=by unfold SumP; rw[hvl]
 cases b' with
 |true=> exact .of_true rfl (e.1 (h2.1 rfl))
 |false=> exact .of_false rfl fun h=> by have:=h2.2 (e.2 h); cases this
theorem F173_eq{p k:Int}{w:Nat}(hp:2≤p∧p≤7)(hk:0≤k∧k < p){r o:List Int}(hr:VecOK p w r)(ho:VecOK p w o)(hw:w≤1000):F173 p r o k=some (subv p r o (-k)):=by
 have hl:=hr.len;have hol:=ho.len;unfold F173;rw[F96_eq (by omega),ob,show(o.length:Int)=(r.length:Int) by omega,idx_loop (l:=r) (B:=F173_1_B p o k) (D:=F173_1_D p o k) (fun i x=>(x - -k*nth o i)% p) (by omega) (fun i hi s hs hk'=>?_) (fun i s=> rfl),ob]
 ·congr 1
  have hsl:(subv p r o (-k)).length=w:=by simp[subv,hl,hol]
  apply List.ext_getElem (by simp[hl,hsl]);intro i h1 h2;have hi:i < w:=by omega
  have:=nth_sub (p:=p) (k:= -k) hl hol hi;rw[nth_lt h2,nth_lt (show i < r.length by omega)]at this;rw[this]; simp
 ·have h1:s[i]? =r[i]?:=by rw[hk' i,if_neg (Nat.lt_irrefl _)]
  have h2:s[i]'(by omega)=r[i]:=by
   have:=h1;rw[List.getElem?_eq_getElem (by omega),List.getElem?_eq_getElem hi]at this;exact Option.some.inj this
  have a1:=hr.rng i (by omega);rw[nth_lt hi]at a1;have a2:=ho.rng i (by omega);have hm:0≤k*nth o i∧k*nth o i≤49:=by
   refine⟨Int.mul_nonneg hk.1 a2.1,?_⟩;have:=Int.mul_le_mul (show k≤7 by omega) (show nth o i≤7 by omega) a2.1 (by decide);omega
  unfold F173_1_B;rw[nth_get (by omega),ob,getI_nat (show i < s.length by omega),ob,h2,chk_ok (by omega) (by omega),ob,chk_ok (by omega) (by omega),ob,remI_ok (by omega),ob,setI_nat (by omega),ob,tmod_pos (by omega),show r[i] - -k*nth o i=r[i]+k*nth o i by rw[Int.neg_mul]; omega]
def dc(x:GComplex)(n:Nat):Nat:=(x.Dims.getD n 0).toNat
theorem dc_le{x:GComplex}(h:ValidC x)(n:Nat):dc x n≤8:=by
 unfold dc;by_cases hn:n < x.Dims.length
 ·have:=h.dim hn; omega
 ·rw[List.getD_eq_getElem?_getD,List.getElem?_eq_none (by omega)]; simp
theorem dc_at{x:GComplex}(h:ValidC x){n:Nat}(hn:n < x.Dims.length):x.Dims.getD n 0=(dc x n:Int):=by
 have:=h.dim hn;unfold dc; omega
theorem F99_dc{x:GComplex}(hx:SmallC x)(h:ValidC x){n:Nat}(hn:n≤x.Dims.length):F99 x (n:Int)=some (dc x n:Int):=by
 have hd:=hx.d;by_cases c:n < x.Dims.length
 ·rw[F99_at hx.d c,dc_at h c]
 ·have e:n=x.Dims.length:=by omega
  subst e;have:dc x x.Dims.length=0:=by unfold dc; rw[List.getD_eq_getElem?_getD,List.getElem?_eq_none (by omega)]; rfl
  unfold F99;rw[chk_ok (by omega) (by omega),ob,F54_eq,ob,if_neg (by simp; omega),this];rfl
theorem F102_dc{x:GComplex}(hx:SmallC x)(h:ValidC x){n:Nat}(hn:n≤x.Dims.length):F102 x (n:Int)=some (dc x n:Int):=by
 have hd:=hx.d;by_cases c:n < x.Dims.length
 ·rw[F102_at hx.d c,dc_at h c]
 ·have e:n=x.Dims.length:=by omega
  subst e;have:dc x x.Dims.length=0:=by unfold dc; rw[List.getD_eq_getElem?_getD,List.getElem?_eq_none (by omega)]; rfl
  unfold F102;rw[F86_eq hx.d,ob,F56_eq,ob,if_neg (by simp; omega),this];rfl
theorem bounds_same{x:GComplex}(hx:SmallC x)(h:ValidC x){n:Nat}(hn:n < x.Dims.length):∃B,F251 x (n:Int)=some B∧F186 x (n:Int)=some B∧Red x.Prime (dc x n) B:=by
 have hd:=hx.d;have hml:=h.ml;have hdl:=h.dl;unfold F251 F186;rw[chk_ok (by omega) (by omega),ob,if_neg (by omega),F86_eq hx.d,ob];by_cases c:n+1 < x.Dims.length
 ·have ht:=h.tab n (by omega)
  have hr:Rows x.Prime (dc x n) (x.Maps.getD n []):=fun r hr=>(ht.2 r hr).vec;have hl:=ht.1;have hd1:=h.dim c;have:=dc_le h n;obtain⟨B,b1,b2,b3⟩:=reduce_same h.p hr (by omega) (by omega);rw[show(n:Int)+1=((n+1:Nat):Int) by omega,F76_eq hx.d c (by omega),ob,b1,ob,if_neg (by omega),getI_getD (show n < x.Maps.length by omega) [],ob,b2,ob];exact⟨B,rfl,rfl,b3.red⟩
 ·obtain⟨N,n1, -,n3⟩:=reduce_same (p:=x.Prime) (w:=dc x n) h.p (rows:=[]) (fun r hr=>(nomatch hr)) (by have:=dc_le h n; omega) (by simp)
  have hN:N=[]:=by have:=n3.same (by have:=h.p.range; omega) (EchOf.nil x.Prime (dc x n)); exact this
  subst hN;have e:F76 x ((n:Int)+1)=some []:=by
   unfold F76;rw[chk_ok (by omega) (by omega),ob,F54_eq,ob,if_neg (by simp; omega)];have h99:=F99_dc hx h (n:=n+1) (by omega);have h0:dc x (n+1)=0:=by unfold dc; rw[List.getD_eq_getElem?_getD,List.getElem?_eq_none (by omega)]; rfl
   rw[h0]at h99;obtain⟨t,g1,g2⟩:=loopW_inv (S:=F76_1_S x ((n:Int)+1)) (fun s=> 0) (fun s=> s=([],0)) (fun t=> t=[]) (s:=([],0)) rfl (by
    rintro s rfl;right;unfold F76_1_S;simp only;rw[show(n:Int)+1=((n+1:Nat):Int) by omega,h99,ob,if_neg (by simp)];exact⟨_,rfl,rfl⟩)
   rw[g1,ob,g2]
  rw[e,ob,n1,ob,if_pos (by omega)];exact⟨[],rfl,rfl,n3.red⟩
noncomputable def hm(x:GComplex)(n:Nat):Int:=(F283 x (n:Int)).getD 0
theorem hm_eq{x:GComplex}(hx:SmallC x)(h:ValidC x){n:Nat}(hn:n < x.Dims.length):F283 x (n:Int)=some (hm x n)∧F168 x (n:Int)=some (hm x n)∧hm x n≤8:=by
 obtain⟨K,k1,k2,k3⟩:=cycles_same hx h hn;obtain⟨B,b1,b2,b3⟩:=bounds_same hx h hn;have hK:=red_len k3;have hB:=red_len b3;have hd:=dc_le h n;have hdd:dc x n=(x.Dims.getD n 0).toNat:=rfl;have e1:F283 x (n:Int)=some ((K.length:Int) - (B.length:Int)):=by
  unfold F283;rw[k1,ob,b1,ob,chk_ok (by omega) (by omega),ob]
 have e2:F168 x (n:Int)=some ((K.length:Int) - (B.length:Int)):=by
  unfold F168;rw[k2,ob,b2,ob,chk_ok (by omega) (by omega),ob]
 have e3:hm x n=(K.length:Int) - (B.length:Int):=by unfold hm; rw[e1]; rfl
 rw[e1,e2,e3];exact⟨rfl,rfl,by omega⟩
structure TabN (p:Int) (c w:Nat) (m:List (List Int)):Prop where
 len:m.length=c
 rows:Rows p w m
theorem TabN.of{p:Int}{c w:Nat}{m:List (List Int)}(T:TableOK p (c:Int) (w:Int) m):TabN p c w m:=⟨by have:=T.1; omega,fun r hr=>(T.2 r hr).vec⟩
theorem linT{p:Int}(hp:IsP p){c w:Nat}{m:List (List Int)}(T:TabN p c w m)(hc:c≤1000)(hw:w≤1000){v:List Int}(hv:VecOK p c v):F80 p m v (w:Int)=some (lin p w v m)∧F119 p (w:Int) v m=some (lin p w v m)∧VecOK p w (lin p w v m):=by
 have hvl:=hv.len;have hml:=T.len;have H:LinOK p w v m:=⟨hp.range,fun y hy=> by
  obtain⟨k,hk,rfl⟩:=List.getElem_of_mem hy;have:=hv.rng k (by omega)
  rwa[nth_lt hk]at this,by omega,fun l hl=>⟨(T.rows l hl).len,fun y hy=> by
  have hl':=T.rows l hl;have hll:=hl'.len;obtain⟨k,hk,rfl⟩:=List.getElem_of_mem hy;have:=hl'.rng k (by omega)
  rwa[nth_lt hk]at this⟩,by omega,by omega⟩
 refine⟨F80_eq H rfl,F119_eq H rfl,?_⟩;have hok:=linN_ok H v.length (Nat.le_refl _);refine⟨hok.1,fun j hj=>?_⟩;have hj':j < (lin p w v m).length:=by rw[lin_len H]; exact hj
 rw[nth_lt hj'];exact hok.2 _ (List.getElem_mem hj')
structure SmallK (c:GContraction):Prop where
 d:c.Down.length≤1048576∧∀m∈c.Down,m.length≤1048576∧∀r∈m,r.length≤1048576
 u:c.Up.length≤1048576∧∀m∈c.Up,m.length≤1048576∧∀r∈m,r.length≤1048576
 b:c.Back.length≤1048576∧∀m∈c.Back,m.length≤1048576∧∀r∈m,r.length≤1048576
def TabsAt(x:GComplex)(c:GContraction)(n:Nat):Prop:=TableOK x.Prime (dc x n) (hm x n) (c.Down.getD n [])∧TableOK x.Prime (hm x n) (dc x n) (c.Up.getD n [])∧TableOK x.Prime (dc x n) (dc x (n+1)) (c.Back.getD n [])
structure ShapeK (x:GComplex) (c:GContraction):Prop where
 d:c.Down.length=x.Dims.length
 u:c.Up.length=x.Dims.length
 b:c.Back.length=x.Dims.length
 t:∀n,n < x.Dims.length→TabsAt x c n
theorem small_at{l:List (List (List Int))}(h:l.length≤1048576∧∀m∈l,m.length≤1048576∧∀r∈m,r.length≤1048576){n:Nat}(hn:n < l.length):(l.getD n []).length≤1099511627776∧∀r∈l.getD n [],r.length≤1099511627776:=by
 have h1:=h.2 _ (getD_mem hn []);exact⟨by omega,fun r hr=> by have:=h1.2 r hr; omega⟩
theorem F282_tells{x:GComplex}{c:GContraction}(hx:SmallC x)(hk:SmallK c)(h:ValidC x):Tells (F282 x c) (ShapeK x c):=by
 have hd:=hx.d;have hdl:=h.dl;unfold F282;by_cases c1:(c.Down.length:Int)=x.Dims.length
 case neg=> rw[if_neg c1]; exact .of_false rfl fun k=> c1 (by have:=k.d; omega)
 rw[if_pos c1];by_cases c2:(c.Up.length:Int)=x.Dims.length
 case neg=> rw[if_neg c2]; exact .of_false rfl fun k=> c2 (by have:=k.u; omega)
 rw[if_pos c2];by_cases c3:(c.Back.length:Int)=x.Dims.length
 case neg=> rw[if_neg c3]; exact .of_false rfl fun k=> c3 (by have:=k.b; omega)
 rw[if_pos c3];obtain⟨b,h1,h2⟩:=all_for (B:=F282_1_B x c) (D:=F282_1_D x c) (TabsAt x c) (show x.Dims.length≤1000000 by omega) (fun n hn=> by
  obtain⟨e1,e2,e3⟩:=hm_eq hx h hn;have s1:=small_at hk.d (n:=n) (by omega);have s2:=small_at hk.u (n:=n) (by omega);have s3:=small_at hk.b (n:=n) (by omega);unfold F282_1_B;rw[e1,ob,getI_getD (show n < c.Down.length by omega) [],ob,getI_getD hn 0,ob,dc_at h hn,F93_eq];refine LTells.iff ((F79_tells h.p.range s1.1 s1.2).then_L fun _=>?_) (Q:=TabsAt x c n) (P:=TableOK x.Prime (dc x n) (hm x n) (c.Down.getD n [])∧TableOK x.Prime (hm x n) (dc x n) (c.Up.getD n [])∧TableOK x.Prime (dc x n) (dc x (n+1)) (c.Back.getD n [])∧True) (by unfold TabsAt; simp);rw[getI_getD (show n < c.Up.length by omega) [],ob,F93_eq];refine(F79_tells h.p.range s2.1 s2.2).then_L fun _=>?_;rw[getI_getD (show n < c.Back.length by omega) [],ob,show(n:Int)+1=((n+1:Nat):Int) by omega,F99_dc hx h (n:=n+1) (by omega),ob,F93_eq];exact(F79_tells h.p.range s3.1 s3.2).then_L fun _=> .yes) fun i=> rfl
 rw[h1,ob];cases b with
 |true=> exact .of_true rfl ⟨by omega,by omega,by omega,h2.1 rfl⟩
 |false=> exact .of_false rfl fun k=> by have:=h2.2 k.t; cases this
theorem F206_tells{x:GComplex}{c:GContraction}(hx:SmallC x)(hk:SmallK c)(h:ValidC x):Tells (F206 c x) (ShapeK x c):=by
 have hd:=hx.d;have hdl:=h.dl;unfold F206;by_cases c1:(c.Down.length:Int)=x.Dims.length
 case neg=> rw[if_neg c1]; exact .of_false rfl fun k=> c1 (by have:=k.d; omega)
 rw[if_pos c1];by_cases c2:(c.Up.length:Int)=x.Dims.length
 case neg=> rw[if_neg c2]; exact .of_false rfl fun k=> c2 (by have:=k.u; omega)
 rw[if_pos c2];by_cases c3:(c.Back.length:Int)=x.Dims.length
 case neg=> rw[if_neg c3]; exact .of_false rfl fun k=> c3 (by have:=k.b; omega)
 rw[if_pos c3];obtain⟨b,h1,h2⟩:=all_for (B:=F206_1_B c x) (D:=F206_1_D c x) (TabsAt x c) (show x.Dims.length≤1000000 by omega) (fun n hn=> by
  obtain⟨e1,e2,e3⟩:=hm_eq hx h hn;have s1:=small_at hk.d (n:=n) (by omega);have s2:=small_at hk.u (n:=n) (by omega);have s3:=small_at hk.b (n:=n) (by omega);unfold F206_1_B;rw[getI_getD hn 0,ob,dc_at h hn,e2,ob,getI_getD (show n < c.Down.length by omega) [],ob];refine LTells.iff (LTells.ite fun q1=>?_) (Q:=TabsAt x c n) (P:=((c.Down.getD n []).length:Int)=dc x n∧((c.Up.getD n []).length:Int)=hm x n∧((c.Back.getD n []).length:Int)=dc x n∧(∀r∈c.Down.getD n [],RowOK x.Prime (hm x n) r)∧(∀r∈c.Up.getD n [],RowOK x.Prime (dc x n) r)∧(∀r∈c.Back.getD n [],RowOK x.Prime (dc x (n+1)) r)∧True) ?_
  ·rw[getI_getD (show n < c.Up.length by omega) [],ob]
   refine LTells.ite fun q2=>?_;rw[getI_getD (show n < c.Back.length by omega) [],ob];refine LTells.ite fun q3=>?_;refine(F90_tells h.p.range s1.1 s1.2).then_L fun _=>?_;refine(F90_tells h.p.range s2.1 s2.2).then_L fun _=>?_;rw[show(n:Int)+1=((n+1:Nat):Int) by omega,F102_dc hx h (n:=n+1) (by omega),ob];exact(F90_tells h.p.range s3.1 s3.2).then_L fun _=> .yes
  ·unfold TabsAt TableOK
   constructor
   ·rintro⟨a1,a2,a3,a4,a5,a6, -⟩; exact⟨⟨a1,a4⟩,⟨a2,a5⟩,⟨a3,a6⟩⟩
   ·rintro⟨⟨a1,a4⟩,⟨a2,a5⟩,⟨a3,a6⟩⟩; exact⟨a1,a2,a3,a4,a5,a6,trivial⟩) fun i=> rfl
 rw[h1,ob];cases b with
 |true=> exact .of_true rfl ⟨by omega,by omega,by omega,h2.1 rfl⟩
 |false=> exact .of_false rfl fun k=> by have:=h2.2 k.t; cases this
def hN(c:GContraction)(n:Nat):Nat:=(c.Up.getD n []).length
def upF(x:GComplex)(c:GContraction)(n:Nat)(u:List Int):List Int:=lin x.Prime (dc x n) u (c.Up.getD n [])
def dnF(x:GComplex)(c:GContraction)(n:Nat)(v:List Int):List Int:=lin x.Prime (hN c n) v (c.Down.getD n [])
def bkF(x:GComplex)(c:GContraction)(n:Nat)(v:List Int):List Int:=lin x.Prime (dc x (n+1)) v (c.Back.getD n [])
def dfF(x:GComplex)(n:Nat)(v:List Int):List Int:=if n=0 then []else lin x.Prime (dc x (n - 1)) v (x.Maps.getD (n - 1) [])
structure KOK (x:GComplex) (c:GContraction):Prop where
 sx:SmallC x
 vx:ValidC x
 sk:ShapeK x c
theorem KOK.tabs{x:GComplex}{c:GContraction}(K:KOK x c){n:Nat}(hn:n < x.Dims.length):hm x n=(hN c n:Int)∧hN c n≤8∧TabN x.Prime (dc x n) (hN c n) (c.Down.getD n [])∧TabN x.Prime (hN c n) (dc x n) (c.Up.getD n [])∧TabN x.Prime (dc x n) (dc x (n+1)) (c.Back.getD n []):=by
 obtain⟨t1,t2,t3⟩:=K.sk.t n hn;have e:hm x n=(hN c n:Int):=by have:=t2.1; unfold hN; omega
 have hl:=(hm_eq K.sx K.vx hn).2.2;rw[e]at t1 t2;exact⟨e,by omega,.of t1,.of t2,.of t3⟩
theorem up_eq{x:GComplex}{c:GContraction}(K:KOK x c){n:Nat}(hn:n < x.Dims.length){u:List Int}(hu:VecOK x.Prime (hN c n) u):F284 x c (n:Int) u=some (upF x c n u)∧F207 c x (n:Int) u=some (upF x c n u)∧VecOK x.Prime (dc x n) (upF x c n u):=by
 obtain⟨e,hh,t1,t2,t3⟩:=K.tabs hn;have hd:=dc_le K.vx n;have hku:=K.sk.u;obtain⟨a1,a2,a3⟩:=linT K.vx.p t2 (by omega) (by omega) hu;unfold F284 F207;rw[getI_getD (show n < c.Up.length by omega) [],ob,F99_dc K.sx K.vx (by omega),ob,a1,ob,F102_dc K.sx K.vx (by omega),ob,ob,a2,ob];exact⟨rfl,rfl,a3⟩
theorem dn_eq{x:GComplex}{c:GContraction}(K:KOK x c){n:Nat}(hn:n < x.Dims.length){v:List Int}(hv:VecOK x.Prime (dc x n) v):F286 x c (n:Int) v=some (dnF x c n v)∧F175 c x (n:Int) v=some (dnF x c n v)∧VecOK x.Prime (hN c n) (dnF x c n v):=by
 obtain⟨e,hh,t1,t2,t3⟩:=K.tabs hn;have hd:=dc_le K.vx n;have hku:=K.sk.u;have hkd:=K.sk.d;obtain⟨a1,a2,a3⟩:=linT K.vx.p t1 (by omega) (by omega) hv;unfold F286 F175;rw[getI_getD (show n < c.Down.length by omega) [],ob,(hm_eq K.sx K.vx hn).1,ob,e,a1,ob,F86_eq K.sx.d,ob,F56_eq,ob,if_pos (by simp; omega),getI_getD (show n < c.Up.length by omega) [],ob,ob];refine⟨rfl,?_,a3⟩
 change ((F119 x.Prime (hN c n:Int) v (c.Down.getD n [])).bind _)=_
 rw[a2,ob];rfl
theorem bk_eq{x:GComplex}{c:GContraction}(K:KOK x c){n:Nat}(hn:n < x.Dims.length){v:List Int}(hv:VecOK x.Prime (dc x n) v):F288 x c (n:Int) v=some (bkF x c n v)∧F194 c x (n:Int) v=some (bkF x c n v)∧VecOK x.Prime (dc x (n+1)) (bkF x c n v):=by
 obtain⟨e,hh,t1,t2,t3⟩:=K.tabs hn;have hd:=dc_le K.vx n;have hd1:=dc_le K.vx (n+1);have hkb:=K.sk.b;have hxd:=K.sx.d;obtain⟨a1,a2,a3⟩:=linT K.vx.p t3 (by omega) (by omega) hv;unfold F288 F194;rw[getI_getD (show n < c.Back.length by omega) [],ob,chk_ok (by omega) (by omega),ob,show(n:Int)+1=((n+1:Nat):Int) by omega,F99_dc K.sx K.vx (n:=n+1) (by omega),ob,a1,ob,F86_eq K.sx.d,ob,F56_eq,ob,if_pos (by simp; omega),ob,F102_dc K.sx K.vx (n:=n+1) (by omega),ob,ob,a2,ob];exact⟨rfl,rfl,a3⟩
theorem df_eq{x:GComplex}(hx:SmallC x)(h:ValidC x){n:Nat}(hn:n < x.Dims.length){v:List Int}(hv:VecOK x.Prime (dc x n) v):F273 x (n:Int) v=some (dfF x n v)∧F91 x (n:Int) v=some (dfF x n v)∧(n≠0→VecOK x.Prime (dc x (n - 1)) (dfF x n v))∧(dfF x n v).length≤8:=by
 have hxd:=hx.d;unfold F273 F91 dfF;by_cases c:n=0
 ·subst c
  rw[if_pos (by simp),if_pos (by simp),if_pos (by simp)];exact⟨rfl,rfl,fun q=> absurd rfl q,by simp⟩
 ·obtain⟨m,rfl⟩:∃m,n=m+1:=⟨n - 1,by omega⟩
  have hm:m < x.Maps.length:=by have:=h.ml; omega
  have T:TabN x.Prime (dc x (m+1)) (dc x m) (x.Maps.getD m []):= .of (by have:=h.tab m hm; unfold TabAt at this; rwa[dc_at h hn,dc_at h (show m < x.Dims.length by omega)]at this);have hd:=dc_le h m;have hd1:=dc_le h (m+1);obtain⟨a1,a2,a3⟩:=linT h.p T (by omega) (by omega) hv;have e:((m+1:Nat):Int) - 1=(m:Int):=by omega
  rw[if_neg (by omega),if_neg (by omega),if_neg (by omega),F76_eq hx.d (by omega) hm,ob,chk_ok (by omega) (by omega),ob,e,F99_dc hx h (by omega),ob,a1,ob,F86_eq hx.d,ob,if_neg (by omega),ob,getI_getD (show m < x.Dims.length by omega) 0,ob,getI_getD hm [],ob,dc_at h (show m < x.Dims.length by omega),a2,ob,Nat.add_sub_cancel];exact⟨rfl,rfl,fun _=> a3,by rw[a3.len]; omega⟩
def Zr(l:List Int):Prop:=∀y∈l,y=0
def CUP(x:GComplex)(c:GContraction)(n i:Nat):Prop:=Zr (dfF x n (upF x c n (unitv (hN c n) i)))∧dnF x c n (upF x c n (unitv (hN c n) i))=unitv (hN c n) i∧Zr (bkF x c n (upF x c n (unitv (hN c n) i)))
def first(x:GComplex)(c:GContraction)(n:Nat)(v:List Int):List Int:=if n+1 < x.Dims.length then dfF x (n+1) (bkF x c n v)else zv (dc x n)
def second(x:GComplex)(c:GContraction)(n:Nat)(v:List Int):List Int:=if n=0 then zv (dc x n)else bkF x c (n - 1) (dfF x n v)
def CVP(x:GComplex)(c:GContraction)(n:Nat)(v:List Int):Prop:=(n+1 < x.Dims.length→Zr (dnF x c (n+1) (bkF x c n v))∧Zr (bkF x c (n+1) (bkF x c n v)))∧(n≠0→Zr (dnF x c (n - 1) (dfF x n v)))∧SumP x.Prime (dc x n) v (upF x c n (dnF x c n v)) (first x c n v) (second x c n v)
theorem F289_tells{x:GComplex}{c:GContraction}(K:KOK x c){n:Nat}(hn:n < x.Dims.length){v:List Int}(hv:VecOK x.Prime (dc x n) v):Tells (F289 x c (n:Int) v) (CVP x c n v):=by
 have hp:=K.vx.p;have hp0:0 < x.Prime:=by have:=hp.range; omega
 have hxd:=K.sx.d;have hd:=dc_le K.vx n;obtain⟨e,hh, -⟩:=K.tabs hn;obtain⟨d1,d2,d3⟩:=dn_eq K hn hv;obtain⟨b1,b2,b3⟩:=bk_eq K hn hv;obtain⟨f1,f2,f3,f4⟩:=df_eq K.sx K.vx hn hv;obtain⟨u1,u2,u3⟩:=up_eq K hn d3;have hvl:=hv.len;have hz:zv (dc x n)=List.replicate v.length 0:=by rw[hvl]; rfl
 have zok:=zv_ok hp0 (dc x n);unfold F289;rw[d1,ob,b1,ob,f1,ob,mkL_ok v.length rfl (by omega) (by omega),ob,ob,←hz,chk_ok (by omega) (by omega),ob];by_cases c1:n+1 < x.Dims.length
 ·have h1:first x c n v=dfF x (n+1) (bkF x c n v):=if_pos c1
  obtain⟨g1,g2,g3,g4⟩:=df_eq K.sx K.vx c1 b3;have g3':=g3 (by omega);rw[Nat.add_sub_cancel]at g3';obtain⟨i1,i2,i3⟩:=dn_eq K c1 b3;obtain⟨j1,j2,j3⟩:=bk_eq K c1 b3;obtain⟨-,hh1, -⟩:=K.tabs c1;have hd2:=dc_le K.vx (n+1+1);have en:(n:Int)+1=((n+1:Nat):Int):=by omega
  rw[if_pos (by omega),en,g1,ob,i1,ob];by_cases c0:n=0
  ·have h2:second x c n v=zv (dc x n):=if_pos c0
   refine Tells.iff (P:=Zr (dnF x c (n+1) (bkF x c n v))∧Zr (bkF x c (n+1) (bkF x c n v))∧SumP x.Prime (dc x n) v (upF x c n (dnF x c n v)) (first x c n v) (second x c n v)) ((F285_tells (by rw[i3.len]; omega)).and_then fun _=>?_) ⟨fun⟨a,b,d⟩=>⟨fun _=>⟨a,b⟩,fun q=> absurd c0 q,d⟩,fun⟨a,b,d⟩=>⟨(a c1).1,(a c1).2,d⟩⟩;rw[j1,ob];refine(F285_tells (by rw[j3.len]; omega)).and_then fun _=>?_;rw[if_neg (by omega),u1,ob,h1,h2];have T:=F312_tells hp (by omega) hv u3 g3' zok;obtain⟨b,t1,t2⟩:=T;rw[t1,ob];exact⟨b,rfl,t2⟩
  ·have h2:second x c n v=bkF x c (n - 1) (dfF x n v):=if_neg c0
   have f3':=f3 c0;obtain⟨k1,k2,k3⟩:=bk_eq K (n:=n - 1) (by omega) f3';obtain⟨l1,l2,l3⟩:=dn_eq K (n:=n - 1) (by omega) f3';obtain⟨-,hh0, -⟩:=K.tabs (n:=n - 1) (by omega);rw[show n - 1+1=n by omega]at k3;have em:(n:Int) - 1=((n - 1:Nat):Int):=by omega
   refine Tells.iff (P:=Zr (dnF x c (n+1) (bkF x c n v))∧Zr (bkF x c (n+1) (bkF x c n v))∧Zr (dnF x c (n - 1) (dfF x n v))∧SumP x.Prime (dc x n) v (upF x c n (dnF x c n v)) (first x c n v) (second x c n v)) ((F285_tells (by rw[i3.len]; omega)).and_then fun _=>?_) ⟨fun⟨a,b,z,d⟩=>⟨fun _=>⟨a,b⟩,fun _=> z,d⟩,fun⟨a,b,d⟩=>⟨(a c1).1,(a c1).2,b c0,d⟩⟩;rw[j1,ob];refine(F285_tells (by rw[j3.len]; omega)).and_then fun _=>?_;rw[if_pos (by omega),chk_ok (by omega) (by omega),ob,em,k1,ob,l1,ob];refine(F285_tells (by rw[l3.len]; omega)).and_then fun _=>?_;rw[u1,ob,h1,h2];obtain⟨b,t1,t2⟩:=F312_tells hp (by omega) hv u3 g3' k3;rw[t1,ob];exact⟨b,rfl,t2⟩
 ·have h1:first x c n v=zv (dc x n):=if_neg c1
  rw[if_neg (by omega)];by_cases c0:n=0
  ·have h2:second x c n v=zv (dc x n):=if_pos c0
   refine Tells.iff (P:=SumP x.Prime (dc x n) v (upF x c n (dnF x c n v)) (first x c n v) (second x c n v)) ?_ ⟨fun d=>⟨fun q=> absurd q c1,fun q=> absurd c0 q,d⟩,fun⟨a,b,d⟩=> d⟩;rw[if_neg (by omega),u1,ob,h1,h2];obtain⟨b,t1,t2⟩:=F312_tells hp (by omega) hv u3 zok zok;rw[t1,ob];exact⟨b,rfl,t2⟩
  ·have h2:second x c n v=bkF x c (n - 1) (dfF x n v):=if_neg c0
   have f3':=f3 c0;obtain⟨k1,k2,k3⟩:=bk_eq K (n:=n - 1) (by omega) f3';obtain⟨l1,l2,l3⟩:=dn_eq K (n:=n - 1) (by omega) f3';obtain⟨-,hh0, -⟩:=K.tabs (n:=n - 1) (by omega);rw[show n - 1+1=n by omega]at k3;have em:(n:Int) - 1=((n - 1:Nat):Int):=by omega
   refine Tells.iff (P:=Zr (dnF x c (n - 1) (dfF x n v))∧SumP x.Prime (dc x n) v (upF x c n (dnF x c n v)) (first x c n v) (second x c n v)) ?_ ⟨fun⟨z,d⟩=>⟨fun q=> absurd q c1,fun _=> z,d⟩,fun⟨a,b,d⟩=>⟨b c0,d⟩⟩;rw[if_pos (by omega),chk_ok (by omega) (by omega),ob,em,k1,ob,l1,ob];refine(F285_tells (by rw[l3.len]; omega)).and_then fun _=>?_;rw[u1,ob,h1,h2];obtain⟨b,t1,t2⟩:=F312_tells hp (by omega) hv u3 zok k3;rw[t1,ob];exact⟨b,rfl,t2⟩
theorem eq_sum{p:Int}(hp:IsP p){w:Nat}{v u s t B:List Int}(hv:VecOK p w v)(hu:VecOK p w u)(hB:VecOK p w B)(h:∀j,j < w→Cg p (nth B j) (nth s j+nth t j)):subv p v u (-(p - 1))=B↔SumP p w v u s t:=by
 have hp0:0 < p:=by have:=hp.range; omega
 have hl:=sub_ok hp0 hv.len hu.len (k:= -(p - 1));have hj:∀j,j < w→Cg p (nth (subv p v u (-(p - 1))) j) (nth v j - nth u j):=fun j hj=>(sub_cg hv.len hu.len hj).trans ⟨nth u j,by grind⟩;constructor
 ·intro e j hjw
  have h1:=hj j hjw;rw[e]at h1;have h2:=h1.symm.trans (h j hjw);obtain⟨m,hm⟩:=h2;exact⟨m,by omega⟩
 ·intro hS
  refine hl.ext hB fun j hjw=>?_;obtain⟨m,hm⟩:=hS j hjw;exact(hj j hjw).trans (Cg.trans ⟨m,by omega⟩ (h j hjw).symm)
theorem F192_2_tells{x:GComplex}{c:GContraction}(K:KOK x c){n:Nat}(hn:n < x.Dims.length){Z:List (List Int)}{i:Nat}(hi:i < Z.length)(hv:VecOK x.Prime (dc x n) Z[i]):LTells (F192_2_B c x (n:Int) Z (i:Int) ()) (CVP x c n Z[i]):=by
 have hp:=K.vx.p;have hr:=hp.range;have hp0:0 < x.Prime:=by omega
 have hxd:=K.sx.d;have hd:=dc_le K.vx n;obtain⟨e,hh, -⟩:=K.tabs hn;generalize hvz:Z[i]=v at hv;obtain⟨d1,d2,d3⟩:=dn_eq K hn hv;obtain⟨b1,b2,b3⟩:=bk_eq K hn hv;obtain⟨f1,f2,f3,f4⟩:=df_eq K.sx K.vx hn hv;obtain⟨u1,u2,u3⟩:=up_eq K hn d3;have zok:=zv_ok hp0 (dc x n);have hleft:=sub_ok hp0 hv.len u3.len (k:= -(x.Prime - 1));unfold F192_2_B;rw[getI_nat hi,ob,hvz,f2,ob,b2,ob,d2,ob,u2,ob,chk_ok (by omega) (by omega),ob,F173_eq hr (by omega) hv u3 (by omega),ob,F102_dc K.sx K.vx (by omega),ob,mkL_ok (dc x n) rfl (by omega) (by omega),ob]
 change LTells (if _ then _ else _) _
 rw[show(List.replicate (dc x n) (0:Int))=zv (dc x n) from rfl];by_cases c0:n=0
 ·have h2:second x c n v=zv (dc x n):=if_pos c0
  rw[if_neg (by omega),F86_eq K.sx.d,ob];by_cases c1:n+1 < x.Dims.length
  ·have h1:first x c n v=dfF x (n+1) (bkF x c n v):=if_pos c1
   obtain⟨g1,g2,g3,g4⟩:=df_eq K.sx K.vx c1 b3;have g3':=g3 (by omega);rw[Nat.add_sub_cancel]at g3';obtain⟨i1,i2,i3⟩:=dn_eq K c1 b3;obtain⟨j1,j2,j3⟩:=bk_eq K c1 b3;obtain⟨-,hh1, -⟩:=K.tabs c1;have hd2:=dc_le K.vx (n+1+1);have en:(n:Int)+1=((n+1:Nat):Int):=by omega
   have hB:=sub_ok hp0 zok.len g3'.len (k:= -1);rw[if_pos (by omega),chk_ok (by omega) (by omega),ob,en,g2,ob,F173_eq hr (by omega) zok g3' (by omega),ob,j2,ob];refine LTells.iff (P:=Zr (bkF x c (n+1) (bkF x c n v))∧Zr (dnF x c (n+1) (bkF x c n v))∧SumP x.Prime (dc x n) v (upF x c n (dnF x c n v)) (first x c n v) (second x c n v)∧True) ((F92_tells (by rw[j3.len]; omega)).then_L fun _=>?_) ⟨fun⟨a,b,d,_⟩=>⟨fun _=>⟨b,a⟩,fun q=> absurd c0 q,d⟩,fun⟨a,b,d⟩=>⟨(a c1).2,(a c1).1,d,trivial⟩⟩;rw[i2,ob];refine(F92_tells (by rw[i3.len]; omega)).then_L fun _=>?_;exact((F165_tells (by rw[hleft.len]; omega)).iff (eq_sum hp hv u3 hB fun j hj=> by
    rw[h1,h2,nth_zv];exact(sub_cg zok.len g3'.len hj).trans (by rw[nth_zv]; exact⟨0,by omega⟩))).then_L fun _=> .yes
  ·have h1:first x c n v=zv (dc x n):=if_neg c1
   rw[if_neg (by omega)];exact LTells.iff (P:=SumP x.Prime (dc x n) v (upF x c n (dnF x c n v)) (first x c n v) (second x c n v)∧True) (((F165_tells (by rw[hleft.len]; omega)).iff (eq_sum hp hv u3 zok fun j hj=> by
    rw[h1,h2,nth_zv]; exact⟨0,by omega⟩)).then_L fun _=> .yes) ⟨fun⟨d,_⟩=>⟨fun q=> absurd q c1,fun q=> absurd c0 q,d⟩,fun⟨a,b,d⟩=>⟨d,trivial⟩⟩
 ·have h2:second x c n v=bkF x c (n - 1) (dfF x n v):=if_neg c0
  have f3':=f3 c0;obtain⟨k1,k2,k3⟩:=bk_eq K (n:=n - 1) (by omega) f3';obtain⟨l1,l2,l3⟩:=dn_eq K (n:=n - 1) (by omega) f3';obtain⟨-,hh0, -⟩:=K.tabs (n:=n - 1) (by omega);rw[show n - 1+1=n by omega]at k3;have em:(n:Int) - 1=((n - 1:Nat):Int):=by omega
  have hB1:=sub_ok hp0 zok.len k3.len (k:= -1);rw[if_pos (by omega),chk_ok (by omega) (by omega),ob,em,k2,ob,F173_eq hr (by omega) zok k3 (by omega),ob,l2,ob];by_cases c1:n+1 < x.Dims.length
  ·have h1:first x c n v=dfF x (n+1) (bkF x c n v):=if_pos c1
   obtain⟨g1,g2,g3,g4⟩:=df_eq K.sx K.vx c1 b3;have g3':=g3 (by omega);rw[Nat.add_sub_cancel]at g3';obtain⟨i1,i2,i3⟩:=dn_eq K c1 b3;obtain⟨j1,j2,j3⟩:=bk_eq K c1 b3;obtain⟨-,hh1, -⟩:=K.tabs c1;have hd2:=dc_le K.vx (n+1+1);have en:(n:Int)+1=((n+1:Nat):Int):=by omega
   have hB:=sub_ok hp0 hB1.len g3'.len (k:= -1);refine LTells.iff (P:=Zr (dnF x c (n - 1) (dfF x n v))∧Zr (bkF x c (n+1) (bkF x c n v))∧Zr (dnF x c (n+1) (bkF x c n v))∧SumP x.Prime (dc x n) v (upF x c n (dnF x c n v)) (first x c n v) (second x c n v)∧True) ((F92_tells (by rw[l3.len]; omega)).then_L fun _=>?_) ⟨fun⟨z,a,b,d,_⟩=>⟨fun _=>⟨b,a⟩,fun _=> z,d⟩,fun⟨a,b,d⟩=>⟨b c0,(a c1).2,(a c1).1,d,trivial⟩⟩;rw[F86_eq K.sx.d,ob,if_pos (by omega),chk_ok (by omega) (by omega),ob,en,g2,ob,F173_eq hr (by omega) hB1 g3' (by omega),ob,j2,ob];refine(F92_tells (by rw[j3.len]; omega)).then_L fun _=>?_;rw[i2,ob];refine(F92_tells (by rw[i3.len]; omega)).then_L fun _=>?_;exact((F165_tells (by rw[hleft.len]; omega)).iff (eq_sum hp hv u3 hB fun j hj=> by
    rw[h1,h2];refine(sub_cg hB1.len g3'.len hj).trans (Cg.trans (.sub (sub_cg zok.len k3.len hj) (.refl _ _)) ?_);rw[nth_zv]; exact⟨0,by omega⟩)).then_L fun _=> .yes
  ·have h1:first x c n v=zv (dc x n):=if_neg c1
   refine LTells.iff (P:=Zr (dnF x c (n - 1) (dfF x n v))∧SumP x.Prime (dc x n) v (upF x c n (dnF x c n v)) (first x c n v) (second x c n v)∧True) ((F92_tells (by rw[l3.len]; omega)).then_L fun _=>?_) ⟨fun⟨z,d,_⟩=>⟨fun q=> absurd q c1,fun _=> z,d⟩,fun⟨a,b,d⟩=>⟨b c0,d,trivial⟩⟩;rw[F86_eq K.sx.d,ob,if_neg (by omega)];exact((F165_tells (by rw[hleft.len]; omega)).iff (eq_sum hp hv u3 hB1 fun j hj=> by
    rw[h1,h2];refine(sub_cg zok.len k3.len hj).trans ?_;rw[nth_zv]; exact⟨0,by omega⟩)).then_L fun _=> .yes
theorem F192_3_tells{x:GComplex}{c:GContraction}(K:KOK x c){n:Nat}(hn:n < x.Dims.length){Z:List (List Int)}{i:Nat}(hi:i < Z.length)(hz:Z[i]=unitv (hN c n) i)(hii:i < hN c n):LTells (F192_3_B c x (n:Int) Z (i:Int) ()) (CUP x c n i):=by
 have hp:=K.vx.p;have hp1:1 < x.Prime:=by have:=hp.range; omega
 have hd:=dc_le K.vx n;have hd1:=dc_le K.vx (n+1);obtain⟨e,hh, -⟩:=K.tabs hn;have hu:=unitv_ok hp1 hii;obtain⟨u1,u2,u3⟩:=up_eq K hn hu;obtain⟨d1,d2,d3⟩:=dn_eq K hn u3;obtain⟨b1,b2,b3⟩:=bk_eq K hn u3;obtain⟨f1,f2,f3,f4⟩:=df_eq K.sx K.vx hn u3;unfold F192_3_B;rw[getI_nat hi,ob,hz,u2,ob,f2,ob];refine LTells.iff (Q:=CUP x c n i) (P:=Zr (dfF x n (upF x c n (unitv (hN c n) i)))∧dnF x c n (upF x c n (unitv (hN c n) i))=unitv (hN c n) i∧Zr (bkF x c n (upF x c n (unitv (hN c n) i)))∧True) ((F92_tells (by omega)).then_L fun _=>?_) ⟨fun⟨a,b,d,_⟩=>⟨a,b,d⟩,fun⟨a,b,d⟩=>⟨a,b,d,trivial⟩⟩;rw[d2,ob];refine(F165_tells (by rw[d3.len]; omega)).then_L fun _=>?_;rw[b2,ob];exact(F92_tells (by rw[b3.len]; omega)).then_L fun _=> .yes
def CNP(x:GComplex)(c:GContraction)(n:Nat):Prop:=(∀i,i < hN c n→CUP x c n i)∧∀i,i < dc x n→CVP x c n (unitv (dc x n) i)
theorem units_at{n i:Nat}(h:i < (units n).length):(units n)[i]=unitv n i:=by simp[units]
theorem F192_1_tells{x:GComplex}{c:GContraction}(K:KOK x c){n:Nat}(hn:n < x.Dims.length):LTells (F192_1_B c x (n:Int) ()) (CNP x c n):=by
 have hp1:1 < x.Prime:=by have:=K.vx.p.range; omega
 have hd:=dc_le K.vx n;have hku:=K.sk.u;obtain⟨e,hh, -⟩:=K.tabs hn;have hl1:=units_len (dc x n);have hl2:=units_len (hN c n);obtain⟨b,h1,h2⟩:=all_for (n:=(units (dc x n)).length) (B:=F192_2_B c x (n:Int) (units (dc x n))) (D:=F192_2_D c x (n:Int) (units (dc x n))) (fun i=> CVP x c n (unitv (dc x n) i)) (by omega) (fun i hi=> by
  have:=F192_2_tells K hn hi (by rw[units_at hi]; exact unitv_ok hp1 (by omega))
  rwa[units_at hi]at this) fun i=> rfl
 obtain⟨b',k1,k2⟩:=all_for (n:=(units (hN c n)).length) (B:=F192_3_B c x (n:Int) (units (hN c n))) (D:=F192_3_D c x (n:Int) (units (hN c n))) (fun i=> CUP x c n i) (by omega) (fun i hi=> F192_3_tells K hn hi (units_at hi) (by omega)) fun i=> rfl;rw[hl1]at h2;rw[hl2]at k2;unfold F192_1_B;rw[F102_dc K.sx K.vx (by omega),ob,F124_eq (by omega),ob,h1,ob];cases b with
 |false=> exact⟨false,rfl,by simp only[Bool.false_eq_true,false_iff]; exact fun h=> by have:=h2.2 h.2; cases this⟩
 |true=>
  rw[if_pos rfl];simp only;rw[getI_getD (show n < c.Up.length by omega) [],ob]
  change LTells ((F124 (hN c n:Int)).bind _) _
  rw[F124_eq (by omega),ob,k1,ob];cases b' with
  |false=> exact⟨false,rfl,by simp only[Bool.false_eq_true,false_iff]; exact fun h=> by have:=k2.2 h.1; cases this⟩
  |true=> exact⟨true,rfl,by simp only[true_iff]; exact⟨k2.1 rfl,h2.1 rfl⟩⟩
theorem F249_1_tells{x:GComplex}{c:GContraction}(K:KOK x c){n:Nat}(hn:n < x.Dims.length):LTells (F249_1_B x c (n:Int) ()) (CNP x c n):=by
 have hp1:1 < x.Prime:=by have:=K.vx.p.range; omega
 have hd:=dc_le K.vx n;have hd1:=dc_le K.vx (n+1);obtain⟨e,hh, -⟩:=K.tabs hn;have hmq:=(hm_eq K.sx K.vx hn).1;obtain⟨b,h1,h2⟩:=all_W (n:=hN c n) (S:=F249_2_S x c (n:Int)) (fun i=> CUP x c n i) (fun i hi=> by
  have hu:=unitv_ok hp1 hi;obtain⟨u1,u2,u3⟩:=up_eq K hn hu;obtain⟨d1,d2,d3⟩:=dn_eq K hn u3;obtain⟨b1,b2,b3⟩:=bk_eq K hn u3;obtain⟨f1,f2,f3,f4⟩:=df_eq K.sx K.vx hn u3;unfold F249_2_S;rw[hmq,ob,e,if_pos (by omega),F272_eq hi (by omega),ob,u1,ob,f1,ob];refine WTells.iff (Q:=CUP x c n i) (P:=Zr (dfF x n (upF x c n (unitv (hN c n) i)))∧dnF x c n (upF x c n (unitv (hN c n) i))=unitv (hN c n) i∧Zr (bkF x c n (upF x c n (unitv (hN c n) i)))∧True) ((F285_tells (by omega)).then_W fun _=>?_) ⟨fun⟨a,b,d,_⟩=>⟨a,b,d⟩,fun⟨a,b,d⟩=>⟨a,b,d,trivial⟩⟩;rw[d1,ob];refine(F287_tells (by rw[d3.len]; omega)).then_W fun _=>?_;rw[b1,ob];refine(F285_tells (by rw[b3.len]; omega)).then_W fun _=>?_;rw[chk_ok (by omega) (by omega),ob];exact .yes) (by
  unfold F249_2_S;rw[hmq,ob,e,if_neg (by omega)])
 obtain⟨b',k1,k2⟩:=all_W (n:=dc x n) (S:=F249_3_S x c (n:Int)) (fun i=> CVP x c n (unitv (dc x n) i)) (fun i hi=> by
  have hv:=unitv_ok hp1 hi;unfold F249_3_S;rw[getI_getD hn 0,ob,dc_at K.vx hn,if_pos (by omega),F272_eq hi (by omega),ob];refine WTells.iff (P:=CVP x c n (unitv (dc x n) i)∧True) ((F289_tells K hn hv).then_W fun _=>?_) (by simp);rw[chk_ok (by omega) (by omega),ob];exact .yes) (by
  unfold F249_3_S;rw[getI_getD hn 0,ob,dc_at K.vx hn,if_neg (by omega)])
 unfold F249_1_B;rw[h1,ob];cases b with
 |false=> exact⟨false,rfl,by simp only[Bool.false_eq_true,false_iff]; exact fun h=> by have:=h2.2 h.1; cases this⟩
 |true=>
  rw[if_pos rfl];simp only;rw[k1,ob];cases b' with
  |false=> exact⟨false,rfl,by simp only[Bool.false_eq_true,false_iff]; exact fun h=> by have:=k2.2 h.2; cases this⟩
  |true=> exact⟨true,rfl,by simp only[true_iff]; exact⟨h2.1 rfl,k2.1 rfl⟩⟩
theorem F192_tells{x:GComplex}{c:GContraction}(hx:SmallC x)(hk:SmallK c)(h:ValidC x):Tells (F192 c x) (ShapeK x c∧∀n,n < x.Dims.length→CNP x c n):=by
 have hdl:=h.dl;unfold F192;refine(F206_tells hx hk h).and_then fun s=>?_;obtain⟨b,h1,h2⟩:=all_for (B:=F192_1_B c x) (D:=F192_1_D c x) (fun n=> CNP x c n) (show x.Dims.length≤1000000 by omega) (fun n hn=> F192_1_tells ⟨hx,h,s⟩ hn) fun i=> rfl;rw[h1,ob];cases b with
 |true=> exact .of_true rfl (h2.1 rfl)
 |false=> exact .of_false rfl fun k=> by have:=h2.2 k; cases this
theorem F249_tells{x:GComplex}{c:GContraction}(hx:SmallC x)(hk:SmallK c)(h:ValidC x):Tells (F249 x c) (ShapeK x c∧∀n,n < x.Dims.length→CNP x c n):=by
 have hdl:=h.dl;unfold F249;refine(F282_tells hx hk h).and_then fun s=>?_;obtain⟨b,h1,h2⟩:=all_for (B:=F249_1_B x c) (D:=F249_1_D x c) (fun n=> CNP x c n) (show x.Dims.length≤1000000 by omega) (fun n hn=> F249_1_tells ⟨hx,h,s⟩ hn) fun i=> rfl;rw[h1,ob];cases b with
 |true=> exact .of_true rfl (h2.1 rfl)
 |false=> exact .of_false rfl fun k=> by have:=h2.2 k; cases this
structure LongK (c:GContraction):Prop where
 d:LongL (LongL (LongL Long0)) c.Down
 u:LongL (LongL (LongL Long0)) c.Up
 b:LongL (LongL (LongL Long0)) c.Back
theorem F224_eq{c:GContraction}(hc:LongK c){s:Int}(h0:0≤s)(h1:s≤1048576):∃z,F224 c s=some z∧(z < 0∨(0≤z∧z≤1048576∧SmallK c)):=by
 unfold F224;obtain⟨z,k1,k2⟩:=F11_eq hc.d h0 h1;rw[k1,ob];rcases k2 with k2|⟨k2,k3,k4⟩
 ·rw[if_pos k2]; exact⟨_,rfl,.inl (by decide)⟩
 rw[if_neg (by omega)];obtain⟨y,l1,l2⟩:=F11_eq hc.u k2 k3;rw[l1,ob];rcases l2 with l2|⟨l2,l3,l4⟩
 ·rw[if_pos l2]; exact⟨_,rfl,.inl (by decide)⟩
 rw[if_neg (by omega)];obtain⟨w,m1,m2⟩:=F11_eq hc.b l2 l3;rw[m1,ob];rcases m2 with m2|⟨m2,m3,m4⟩
 ·rw[if_pos m2]; exact⟨_,rfl,.inl (by decide)⟩
 rw[if_neg (by omega)];exact⟨w,rfl,.inr ⟨m2,m3,k4,l4,m4⟩⟩
structure PT (s0 ms:T3s) (φ:Nat→Nat→Nat→Nat×Nat×Nat) (val:Nat→Nat→Nat→Int) (D:Nat→Nat→Nat→Prop) (s:T3s):Prop where
 shp:Shp s s0
 at':∀k i j,InT ms k i j→(D k i j→numAt s (φ k i j).1 (φ k i j).2.1 (φ k i j).2.2=val k i j)∧(¬D k i j→numAt s (φ k i j).1 (φ k i j).2.1 (φ k i j).2.2=numAt s0 (φ k i j).1 (φ k i j).2.1 (φ k i j).2.2)
 out:∀a b c,InT s0 a b c→(∀k i j,InT ms k i j→φ k i j≠(a,b,c))→numAt s a b c=numAt s0 a b c
theorem PT.imp{s0 ms:T3s}{φ:Nat→Nat→Nat→Nat×Nat×Nat}{val:Nat→Nat→Nat→Int}{D D':Nat→Nat→Nat→Prop}{s:T3s}(h:PT s0 ms φ val D s)(hd:∀k i j,InT ms k i j→(D k i j↔D' k i j)):PT s0 ms φ val D' s:=
 ⟨h.shp,fun k i j hin=>⟨fun d=>(h.at' k i j hin).1 ((hd k i j hin).2 d),fun d=>(h.at' k i j hin).2 fun x=> d ((hd k i j hin).1 x)⟩,h.out⟩
theorem PT.zero{s0 ms:T3s}{φ:Nat→Nat→Nat→Nat×Nat×Nat}{val:Nat→Nat→Nat→Int}:PT s0 ms φ val (fun _ _ _=> False) s0:=⟨.refl _,fun k i j _=>⟨fun x=> x.elim,fun _=> rfl⟩,fun _ _ _ _ _=> rfl⟩
theorem PT.step{s0 ms:T3s}{φ:Nat→Nat→Nat→Nat×Nat×Nat}{val:Nat→Nat→Nat→Int}(hi:∀k i j,InT ms k i j→InT s0 (φ k i j).1 (φ k i j).2.1 (φ k i j).2.2)(hinj:∀k i j k' i' j',InT ms k i j→InT ms k' i' j'→φ k i j=φ k' i' j'→k=k'∧i=i'∧j=j')
  {D D':Nat→Nat→Nat→Prop} {s:T3s} (h:PT s0 ms φ val D s) {k i j:Nat} (hin:InT ms k i j) (hd:∀k' i' j',D' k' i' j'↔D k' i' j'∨(k'=k∧i'=i∧j'=j)):PT s0 ms φ val D' (put3 s (φ k i j).1 (φ k i j).2.1 (φ k i j).2.2 (val k i j)):=by
 have hs:=h.shp.inT (hi k i j hin);refine⟨(put3_shp hs _).trans h.shp,fun k' i' j' hin'=>?_,fun a b c habc hne=>?_⟩
 ·rw[put3_at hs]
  by_cases e:k'=k∧i'=i∧j'=j
  ·obtain⟨rfl,rfl,rfl⟩:=e
   rw[if_pos ⟨rfl,rfl,rfl⟩];exact⟨fun _=> rfl,fun d=> absurd ((hd _ _ _).2 (.inr ⟨rfl,rfl,rfl⟩)) d⟩
  ·rw[if_neg fun q=> e (hinj k' i' j' k i j hin' hin (Prod.ext q.1 (Prod.ext q.2.1 q.2.2)))]
   refine⟨fun d=>(h.at' _ _ _ hin').1 (((hd _ _ _).1 d).resolve_right e),fun d=>(h.at' _ _ _ hin').2 fun x=> d ((hd _ _ _).2 (.inl x))⟩
 ·rw[put3_at hs,if_neg fun q=> hne k i j hin (Prod.ext q.1.symm (Prod.ext q.2.1.symm q.2.2.symm))]
  exact h.out a b c habc hne
theorem F74_2_big{dims:List Int}(o:T3s)(a b:Int)(c:List Int){n:Nat}(h1:1≤n)(hn:n < dims.length)(hs:dims.length≤1048576)(hd:∀d∈dims,0≤d∧d≤1000):
  forR 0 (dims.getD n 0) (F74_2_B dims o a c n b) (F74_2_D dims o a c n b) []=some (zT dims (n - 1)):=by
 have q:=hd _ (getD_mem hn 0);have q':=hd _ (getD_mem (show n - 1 < dims.length by omega) 0);have e1:((n:Int) - 1)=((n - 1:Nat):Int):=by omega
 obtain⟨t,g1,g2⟩:=forR_inv (B:=F74_2_B dims o a c n b) (D:=F74_2_D dims o a c n b) (hi:=dims.getD n 0) (dims.getD n 0).toNat (by omega) (by omega) (fun j s=> s=List.replicate j (List.replicate (dims.getD (n - 1) 0).toNat (0:Int))) (fun t=> t=zT dims (n - 1)) (s:=[]) (by simp) (by
  rintro j s hj rfl;left;refine⟨List.replicate (j+1) (List.replicate (dims.getD (n - 1) 0).toNat (0:Int)),?_,rfl⟩;unfold F74_2_B;rw[chk_ok (by omega) (by omega),ob,e1,getI_getD (show n - 1 < dims.length by omega) 0,ob,mkL_ok (dims.getD (n - 1) 0).toNat (by omega) (by omega) (by omega),ob,app_ok (by simp; omega) (by simp; omega),ob,List.replicate_succ']) (by
  rintro s rfl;refine⟨_,rfl,?_⟩;unfold zT;rw[show n - 1+1=n by omega])
 rw[g1,g2]
theorem F74_big{p:Int}{dims:List Int}(h1:1≤dims.length)(hs:dims.length≤1048576)(hd:∀d∈dims,0≤d∧d≤1000):F74 p dims=some ⟨p,dims,zM dims⟩:=by
 have hlen:dims.length < 4611686018427387904:=by omega
 unfold F74;obtain⟨t,g1,g2⟩:=forR_from (B:=F74_1_B dims) (D:=F74_1_D dims) 1 dims.length rfl rfl h1 hlen (fun n s=> 1≤n∧s=((List.range (n - 1)).map (zT dims),p,dims)) (fun t=> t=(zM dims,p,dims)) (s:=([],p,dims)) ⟨Nat.le_refl _,rfl⟩ (by
  rintro n s hn ⟨hn1,rfl⟩;left;refine⟨((List.range n).map (zT dims),p,dims),?_,by omega,rfl⟩;unfold F74_1_B;simp only;rw[getI_getD hn 0,ob,F74_2_big _ _ _ _ hn1 hn hs hd,ob,app_ok (by simp; omega) (by simp; omega),ob];obtain⟨m,rfl⟩:∃m,n=m+1:=⟨n - 1,by omega⟩;rw[List.range_succ,List.map_append]; rfl) (by
  rintro s ⟨_,rfl⟩;exact⟨_,rfl,rfl⟩)
 have g1':forR 1 (dims.length:Int) (F74_1_B dims) (F74_1_D dims) ([],p,dims)=some t:=g1;rw[g1',g2,ob]
structure Fam (x y:GComplex) (f:T3s):Prop where
 sx:SmallC x
 sy:SmallC y
 sf:SmallT f
 vx:ValidC x
 vy:ValidC y
 pp:y.Prime=x.Prime
 l:y.Dims.length=x.Dims.length
 fl:f.length=x.Dims.length
 t:∀n,n < x.Dims.length→TabN x.Prime (dc x n) (dc y n) (f.getD n [])
theorem dc_out{x:GComplex}{n:Nat}(h:x.Dims.length≤n):dc x n=0:=by
 unfold dc; rw[List.getD_eq_getElem?_getD,List.getElem?_eq_none h]; rfl
theorem Fam.inT{x y:GComplex}{f:T3s}(F:Fam x y f){k i j:Nat}:InT f k i j↔k < x.Dims.length∧i < dc x k∧j < dc y k:=by
 have hfl:=F.fl;unfold InT;constructor
 ·rintro⟨h1,h2,h3⟩
  have ht:=F.t k (by omega);have a:=ht.len;have b:=(ht.rows _ (getD_mem h2 [])).len;exact⟨by omega,by omega,by omega⟩
 ·rintro⟨h1,h2,h3⟩
  have ht:=F.t k h1;have a:=ht.len;have h2':i < (f.getD k []).length:=by omega
  have b:=(ht.rows _ (getD_mem h2' [])).len;exact⟨by omega,h2',by omega⟩
def xd(x:GComplex)(n:Nat):Nat:=if n=0 then 0 else dc x (n - 1)
def negv(p:Int)(v:List Int):List Int:=v.map fun a=>(-a)% p
theorem negv_len{p:Int}{v:List Int}:(negv p v).length=v.length:=by simp[negv]
theorem nth_negv{p:Int}{v:List Int}{j:Nat}(h:j < v.length):nth (negv p v) j=(-(nth v j))% p:=by
 rw[nth_lt (by rw[negv_len]; exact h),nth_lt h]; simp[negv]
def coneR(x y:GComplex)(f:T3s)(k:Nat):List (List Int):=
 (List.range (dc y (k+1))).map (fun i=> rowAt (y.Maps.getD k []) i++zv (xd x k))++(List.range (dc x k)).map fun i=> rowAt (f.getD k []) i++(if k=0 then []else negv x.Prime (rowAt (x.Maps.getD (k - 1) []) i))
theorem row_ok{p:Int}{c w:Nat}{m:List (List Int)}(T:TabN p c w m){i:Nat}(h:i < c):VecOK p w (rowAt m i):=T.rows _ (row_mem (by rw[T.len]; exact h))
theorem maps_tab{x:GComplex}(h:ValidC x){k:Nat}(hk:k+1 < x.Dims.length):TabN x.Prime (dc x (k+1)) (dc x k) (x.Maps.getD k []):= .of (by
 have:=h.tab k (by have:=h.ml; omega);unfold TabAt at this
 rwa[dc_at h hk,dc_at h (show k < x.Dims.length by omega)]at this)
theorem Fam.row{x y:GComplex}{f:T3s}(F:Fam x y f){k:Nat}(hk:k < x.Dims.length):Rows x.Prime (dc y k+xd x k) (coneR x y f k):=fun r hr=> by
 have hl:=F.l;have hp0:0 < x.Prime:=by have:=F.vx.p.range; omega
 rcases List.mem_append.1 hr with q|q
 ·obtain⟨i,hi,rfl⟩:=List.mem_map.1 q
  have hi':=List.mem_range.1 hi;have hk1:k+1 < y.Dims.length:=Nat.lt_of_not_le fun c=> by rw[dc_out c]at hi'; omega
  have T:=maps_tab F.vy hk1;have hr:=row_ok T hi';refine⟨by rw[List.length_append,hr.len]; simp[zv],fun j hj=>?_⟩;rw[nth_app];split
  ·have:=hr.rng j (by rw[←hr.len]; assumption)
   rwa[F.pp]at this
  ·rw[nth_zv]; omega
 ·obtain⟨i,hi,rfl⟩:=List.mem_map.1 q
  have hi':=List.mem_range.1 hi;have hr:=row_ok (F.t k hk) hi';unfold xd;by_cases c:k=0
  ·rw[if_pos c,if_pos c,List.append_nil]; exact hr
  ·rw[if_neg c,if_neg c]
   have T:=maps_tab F.vx (k:=k - 1) (by omega);rw[show k - 1+1=k by omega]at T;have hs:=row_ok T hi';refine⟨by rw[List.length_append,hr.len,negv_len,hs.len],fun j hj=>?_⟩;rw[nth_app];split
   ·exact hr.rng j (by rw[←hr.len]; assumption)
   ·rename_i hj2
    rw[nth_negv (by rw[hs.len]; rw[hr.len]at hj2 ⊢; omega)];exact⟨Int.emod_nonneg _ (by omega),Int.emod_lt_of_pos _ hp0⟩
structure WideC (x:GComplex):Prop where
 p:IsP x.Prime
 dl:1≤x.Dims.length∧x.Dims.length≤100
 ml:x.Maps.length+1=x.Dims.length
 dims:∀d∈x.Dims,0≤d∧d≤100
 tab:∀k,k < x.Maps.length→TabAt x k
theorem WideC.dim{x:GComplex}(h:WideC x){n:Nat}(hn:n < x.Dims.length):0≤x.Dims.getD n 0∧x.Dims.getD n 0≤100:=h.dims _ (getD_mem hn 0)
theorem lin_okof{p:Int}(hp:IsP p){c w:Nat}{m:List (List Int)}(hml:m.length=c)(hm:Rows p w m)(hc:c≤1000)(hw:w≤1000){v:List Int}(hv:VecOK p c v):LinOK p w v m:=by
 have hvl:=hv.len;exact⟨hp.range,fun y hy=> by
  obtain⟨k,hk,rfl⟩:=List.getElem_of_mem hy;have:=hv.rng k (by omega)
  rwa[nth_lt hk]at this,by omega,fun l hl=>⟨(hm l hl).len,fun y hy=> by
  have hl':=hm l hl;have hll:=hl'.len;obtain⟨k,hk,rfl⟩:=List.getElem_of_mem hy;have:=hl'.rng k (by omega)
  rwa[nth_lt hk]at this⟩,by omega,by omega⟩
theorem lin_vec{p:Int}{w:Nat}{m:List (List Int)}{v:List Int}(H:LinOK p w v m):VecOK p w (lin p w v m):=by
 have hok:=linN_ok H v.length (Nat.le_refl _);refine⟨hok.1,fun j hj=>?_⟩;have hj':j < (lin p w v m).length:=by rw[lin_len H]; exact hj
 rw[nth_lt hj'];exact hok.2 _ (List.getElem_mem hj')
theorem F212_eq{l:T3s}{f:List (List Int)→Option Bool}(P:List (List Int)→Bool)(hl:l.length≤1099511627776)(hf:∀x∈l,f x=some (P x)):∃i:Int,F212 l f=some i∧(0≤i↔∃x∈l,P x=true):=by
 unfold F212;have hs:l.length < 4611686018427387904:=by omega
 obtain⟨t,h1,h2⟩:=forR_inv (B:=F212_1_B l f) (D:=F212_1_D l f) (hi:=l.length) l.length rfl hs (fun i _=>∀k (hk:k < i) (h2:k < l.length),P l[k]=false) (fun t=>(t= .inl ()∧∀x∈l,P x=false)∨∃i:Nat,t= .inr (i:Int)∧∃x∈l,P x=true) (s:=()) (fun k hk=> by omega) (by
  intro i _ hi hI;unfold F212_1_B;rw[getI_nat hi,ob,hf _ (List.getElem_mem hi),ob];cases hp:P l[i]with
  |true=> right; exact⟨_,rfl,.inr ⟨i,rfl,_,List.getElem_mem hi,hp⟩⟩
  |false=>
   left;refine⟨(),rfl,fun k hk h2=>?_⟩;by_cases e:k=i
   ·subst e; exact hp
   ·exact hI k (by omega) h2) (by
  intro _ hI;refine⟨.inl (),rfl,.inl ⟨rfl,fun x hx=>?_⟩⟩;obtain⟨k,hk,rfl⟩:=List.getElem_of_mem hx;exact hI k hk hk)
 rw[h1];rcases h2 with⟨rfl,h2⟩|⟨i,rfl,h2⟩
 ·exact⟨-1,rfl,⟨fun h=> by omega,fun⟨x,hx,hp⟩=> by rw[h2 x hx]at hp; cases hp⟩⟩
 ·exact⟨i,rfl,⟨fun _=> h2,fun _=> Int.natCast_nonneg i⟩⟩
theorem F208_eq{l:T3s}{f:List (List Int)→Option Bool}(P:List (List Int)→Bool)(hl:l.length≤1099511627776)(hf:∀x∈l,f x=some (P x)):F208 l f=some (l.any P):=by
 obtain⟨i,h1,h2⟩:=F212_eq P hl hf;unfold F208;rw[h1,ob];have:decide (0≤i)=l.any P:=by
  rw[Bool.eq_iff_iff];simp only[decide_eq_true_eq,List.any_eq_true];exact h2
 rw[this]
structure ROK (x:GComplex) (c:GContraction) (ms:T3s):Prop where
 kk:KOK x c
 mm:MapsOK x ms
theorem ROK.tab{x:GComplex}{c:GContraction}{ms:T3s}(R:ROK x c ms){n:Nat}(hn:n+1 < x.Dims.length):TabN x.Prime (dc x (n+1)) (dc x n) (ms.getD n []):= .of (by
 have hv:=R.kk.vx;have:=R.mm.t n (by have:=R.mm.l; have:=hv.ml; omega);unfold TabM at this
 rwa[dc_at hv hn,dc_at hv (show n < x.Dims.length by omega)]at this)
def turnF(x:GComplex)(c:GContraction)(ms:T3s)(n:Nat)(v:List Int):List Int:=if n+1 < x.Dims.length then lin x.Prime (dc x n) (bkF x c n v) (ms.getD n [])else zv (dc x n)
theorem turn_eq{x:GComplex}{c:GContraction}{ms:T3s}(R:ROK x c ms){n:Nat}(hn:n < x.Dims.length){v:List Int}(hv:VecOK x.Prime (dc x n) v):F357 x c ms (n:Int) v=some (turnF x c ms n v)∧F174 c x ⟨x.Prime,x.Dims,ms⟩ (n:Int) v=some (turnF x c ms n v)∧VecOK x.Prime (dc x n) (turnF x c ms n v):=by
 have K:=R.kk;have hx:=K.sx;have h:=K.vx;have hp0:0 < x.Prime:=by have:=h.p.range; omega
 have hxd:=hx.d;have hd:=dc_le h n;have hml:=h.ml;have hmm:=R.mm.l;have hvl:=hv.len;obtain⟨b1,b2,b3⟩:=bk_eq K hn hv;unfold F357 F174 turnF;rw[chk_ok (by omega) (by omega),ob,F86_eq hxd,ob];by_cases hn1:n+1 < x.Dims.length
 ·have hd1:=dc_le h (n+1)
  obtain⟨a1,a2,a3⟩:=linT h.p (R.tab hn1) (by omega) (by omega) b3;have e91:F91 ⟨x.Prime,x.Dims,ms⟩ ((n:Int)+1) (bkF x c n v)=some (lin x.Prime (dc x n) (bkF x c n v) (ms.getD n [])):=by
   unfold F91;rw[if_neg (by omega),F86_eq (x:=⟨x.Prime,x.Dims,ms⟩) hxd,ob,if_neg (by simp only; omega),chk_ok (by omega) (by omega),ob];simp only;rw[show(n:Int)+1 - 1=(n:Int) by omega,getI_getD (show n < x.Dims.length by omega) 0,ob,getI_getD (show n < ms.length by omega) [],ob,dc_at h (show n < x.Dims.length by omega),a2,ob]
  rw[if_neg (by omega),if_pos hn1,if_neg (by omega),getI_getD (show n < ms.length by omega) [],ob,b1,ob,F99_dc hx h (by omega),ob,a1,ob,ob,b2,ob,e91,ob];exact⟨rfl,rfl,a3⟩
 ·rw[if_pos (by omega),if_neg hn1,if_pos (by omega),mkL_ok v.length rfl (by omega) (by omega),ob,F102_dc hx h (by omega),ob,mkL_ok (dc x n) rfl (by omega) (by omega),ob,hvl]
  exact⟨rfl,rfl,zv_ok hp0 _⟩
theorem lin_zero{p:Int}(hp:IsP p){a w:Nat}{m:List (List Int)}(T:TabN p a w m)(ha:a≤1000)(hw:w≤1000):lin p w (zv a) m=zv w:=by
 have hp0:0 < p:=by have:=hp.range; omega
 have hz:=zv_ok hp0 a;have H:=lin_okof hp T.len T.rows ha hw hz;refine(lin_vec H).ext (zv_ok hp0 w) fun j hj=>(lin_at H hj).trans ?_;rw[nth_zv,dot_zero fun i _=> nth_zv a i];exact .refl _ _
theorem zr_iff{p:Int}{w:Nat}{v:List Int}(hv:VecOK p w v):Zr v↔v=zv w:=by
 constructor
 ·intro h
  refine nth_ext (by rw[hv.len]; simp[zv]) fun j hj=>?_;rw[nth_zv,nth_lt hj];exact h _ (List.getElem_mem hj)
 ·rintro rfl y hy
  exact(List.mem_replicate.1 hy).2
theorem turn_zero{x:GComplex}{c:GContraction}{ms:T3s}(R:ROK x c ms){n:Nat}(hn:n < x.Dims.length):turnF x c ms n (zv (dc x n))=zv (dc x n):=by
 have h:=R.kk.vx;have hd:=dc_le h n;have hd1:=dc_le h (n+1);obtain⟨-, -, -, -,t3⟩:=R.kk.tabs hn;unfold turnF;by_cases hn1:n+1 < x.Dims.length
 ·rw[if_pos hn1]
  unfold bkF;rw[lin_zero h.p t3 (by omega) (by omega),lin_zero h.p (R.tab hn1) (by omega) (by omega)]
 ·rw[if_neg hn1]
def itr(x:GComplex)(c:GContraction)(ms:T3s)(n:Nat)(v:List Int):Nat→List Int
 |0=> v
 |k+1=> turnF x c ms n (itr x c ms n v k)
theorem itr_ok{x:GComplex}{c:GContraction}{ms:T3s}(R:ROK x c ms){n:Nat}(hn:n < x.Dims.length){v:List Int}(hv:VecOK x.Prime (dc x n) v):∀k,VecOK x.Prime (dc x n) (itr x c ms n v k)
 |0=> hv
 |k+1=>(turn_eq R hn (itr_ok R hn hv k)).2.2
theorem itr_mono{x:GComplex}{c:GContraction}{ms:T3s}(R:ROK x c ms){n:Nat}(hn:n < x.Dims.length){v:List Int}(hv:VecOK x.Prime (dc x n) v){j k:Nat}(hjk:j≤k)(h:Zr (itr x c ms n v j)):Zr (itr x c ms n v k):=by
 induction k with
 |zero=>
  have:j=0:=by omega
  subst this;exact h
 |succ k ih=>
  by_cases e:j=k+1
  ·subst e; exact h
  ·have:=(zr_iff (itr_ok R hn hv k)).1 (ih (by omega))
   refine(zr_iff (itr_ok R hn hv (k+1))).2 ?_;show turnF x c ms n (itr x c ms n v k)=_;rw[this,turn_zero R hn]
def AZ(x:GComplex)(c:GContraction)(ms:T3s)(k:Nat):Prop:=∀n,n < x.Dims.length→∀i,i < dc x n→Zr (itr x c ms n (unitv (dc x n) i) k)
theorem F352_3_eq{x:GComplex}{c:GContraction}{ms:T3s}(R:ROK x c ms){n:Nat}(hn:n < x.Dims.length){v:List Int}(hv:VecOK x.Prime (dc x n) v)(j:Int){o:Nat}(ho:o≤9):∃t,loopW (F352_3_S x c ms (n:Int) j) ((o:Int),v,0)=some t∧((∃m:Nat,m≤9∧Zr (itr x c ms n v m)∧(∀i,i < m→¬Zr (itr x c ms n v i))∧t= .inl ((max o m:Nat):Int))∨(¬Zr (itr x c ms n v 9)∧t= .inr ⟨0,false⟩)):=by
 have hd:=dc_le R.kk.vx n;refine loopW_inv (S:=F352_3_S x c ms (n:Int) j) (fun s=>(9 - s.2.2).toNat) (fun s=>∃k:Nat,k≤9∧s=(((max o k:Nat):Int),itr x c ms n v k,(k:Int))∧∀i,i < k→¬Zr (itr x c ms n v i)) _ (s:=((o:Int),v,0)) ⟨0,by omega,by rw[Nat.max_eq_left (Nat.zero_le o)]; rfl,fun i hi=> by omega⟩ ?_;rintro _ ⟨k,hk,rfl,hz⟩;have hok:=itr_ok R hn hv k;unfold F352_3_S;simp only;rcases(F285_tells (l:=itr x c ms n v k) (by rw[hok.len]; omega)).case with⟨e,hzr⟩|⟨e,hzr⟩
 ·right
  rw[e,ob,if_pos rfl];exact⟨_,rfl,.inl ⟨k,hk,hzr,hz,rfl⟩⟩
 ·rw[e,ob,if_neg Bool.false_ne_true]
  by_cases c9:k=9
  ·right
   subst c9;rw[if_pos (by omega)];exact⟨_,rfl,.inr ⟨hzr,rfl⟩⟩
  ·left
   rw[if_neg (by omega),(turn_eq R hn hok).1,ob,chk_ok (by omega) (by omega),ob];refine⟨_,rfl,⟨k+1,by omega,?_,fun i hi=>?_⟩,by simp only; omega⟩
   ·refine Prod.ext ?_ (Prod.ext rfl (by simp only; omega))
    simp only;split <;> omega
   ·by_cases e:i=k
    ·subst e; exact hzr
    ·exact hz i (by omega)
structure Rds (x:GComplex) (c:GContraction) (ms:T3s) (S:Nat→Nat→Prop) (o:Nat):Prop where
 le:o≤9
 all:∀n i,S n i→n < x.Dims.length→i < dc x n→Zr (itr x c ms n (unitv (dc x n) i) o)
 least:∀k,k < o→∃n i,S n i∧n < x.Dims.length∧i < dc x n∧¬Zr (itr x c ms n (unitv (dc x n) i) k)
theorem Rds.add{x:GComplex}{c:GContraction}{ms:T3s}(R:ROK x c ms){S S':Nat→Nat→Prop}{o m:Nat}(h:Rds x c ms S o){n i:Nat}(hn:n < x.Dims.length)(hi:i < dc x n)(hS:∀a b,S' a b↔S a b∨(a=n∧b=i))(hm:m≤9)(hz:Zr (itr x c ms n (unitv (dc x n) i) m))(hl:∀k,k < m→¬Zr (itr x c ms n (unitv (dc x n) i) k)):Rds x c ms S' (max o m):=by
 have hp1:1 < x.Prime:=by have:=R.kk.vx.p.range; omega
 have ho:=h.le;refine⟨by omega,fun a b q ha hb=>?_,fun k hk=>?_⟩
 ·rcases(hS a b).1 q with q|⟨rfl,rfl⟩
  ·exact itr_mono R ha (unitv_ok hp1 hb) (Nat.le_max_left _ _) (h.all a b q ha hb)
  ·exact itr_mono R hn (unitv_ok hp1 hi) (Nat.le_max_right _ _) hz
 ·by_cases q:k < o
  ·obtain⟨a,b,q1,q2,q3,q4⟩:=h.least k q
   exact⟨a,b,(hS a b).2 (.inl q1),q2,q3,q4⟩
  ·exact⟨n,i,(hS n i).2 (.inr ⟨rfl,rfl⟩),hn,hi,hl k (by omega)⟩
theorem Rds.imp{x:GComplex}{c:GContraction}{ms:T3s}{S S':Nat→Nat→Prop}{o:Nat}(h:Rds x c ms S o)(e:∀a b,a < x.Dims.length→b < dc x a→(S a b↔S' a b)):Rds x c ms S' o:=
 ⟨h.le,fun a b q ha hb=> h.all a b ((e a b ha hb).2 q) ha hb,fun k hk=> by
  obtain⟨a,b,q1,q2,q3,q4⟩:=h.least k hk;exact⟨a,b,(e a b q2 q3).1 q1,q2,q3,q4⟩⟩
theorem F352_2_eq{x:GComplex}{c:GContraction}{ms:T3s}(R:ROK x c ms){n:Nat}(hn:n < x.Dims.length){o:Nat}(h:Rds x c ms (fun a _=> a < n) o):∃t,loopW (F352_2_S x c ms (n:Int)) ((o:Int),0)=some t∧((∃o':Nat,t= .inl (o':Int)∧Rds x c ms (fun a _=> a < n+1) o')∨(t= .inr ⟨0,false⟩∧¬AZ x c ms 9)):=by
 have hv:=R.kk.vx;have hp1:1 < x.Prime:=by have:=hv.p.range; omega
 have hd:=dc_le hv n;refine loopW_inv (S:=F352_2_S x c ms (n:Int)) (fun s=>((dc x n:Int) - s.2).toNat) (fun s=>∃i o:Nat,i≤dc x n∧s=((o:Int),(i:Int))∧Rds x c ms (fun a b=> a < n∨(a=n∧b < i)) o) _ (s:=((o:Int),0)) ⟨0,o,Nat.zero_le _,rfl,h.imp fun a b _ _=> by omega⟩ ?_;rintro _ ⟨i,o,hi,rfl,hI⟩;unfold F352_2_S;simp only;rw[getI_getD hn 0,ob,dc_at hv hn];by_cases q:i < dc x n
 ·rw[if_pos (by omega),F272_eq q (by omega),ob]
  obtain⟨t,t1,t2⟩:=F352_3_eq R hn (unitv_ok hp1 q) (i:Int) hI.le;rw[t1,ob];rcases t2 with⟨m,m1,m2,m3,rfl⟩|⟨m1,rfl⟩
  ·left
   simp only;rw[chk_ok (by omega) (by omega),ob];refine⟨_,rfl,⟨i+1,max o m,by omega,by simp,hI.add R hn q (fun a b=> by omega) m1 m2 m3⟩,by simp only; omega⟩
  ·right
   exact⟨_,rfl,.inr ⟨rfl,fun z=> m1 (z n hn i q)⟩⟩
 ·right
  rw[if_neg (by omega)];exact⟨_,rfl,.inl ⟨o,rfl,hI.imp fun a b ha hb=> by
   constructor
   ·omega
   ·intro z
    by_cases e:a=n
    ·subst e; omega
    ·omega⟩⟩
theorem rounds_spec{x:GComplex}{c:GContraction}{ms:T3s}(R:ROK x c ms):∃t,F352 x c ms=some t∧((∃o:Nat,t=⟨(o:Int),true⟩∧o≤9∧AZ x c ms o∧∀k,k < o→¬AZ x c ms k)∨(t=⟨0,false⟩∧¬AZ x c ms 9)):=by
 have hdl:=R.kk.vx.dl;have hl:x.Dims.length < 4611686018427387904:=by omega
 obtain⟨t,g1,g2⟩:=forR_inv (B:=F352_1_B x c ms) (D:=F352_1_D x c ms) (hi:=(x.Dims.length:Int)) x.Dims.length rfl hl (fun n s=>∃o:Nat,s=(o:Int)∧Rds x c ms (fun a _=> a < n) o) (fun t=>(∃o:Nat,t= .inl (o:Int)∧Rds x c ms (fun a _=> a < x.Dims.length) o)∨(t= .inr ⟨0,false⟩∧¬AZ x c ms 9)) (s:=0) ⟨0,rfl,by omega,fun n i q=> absurd q (Nat.not_lt_zero _),fun k hk=> absurd hk (Nat.not_lt_zero _)⟩ (by
  rintro n _ hn ⟨o,rfl,hI⟩;obtain⟨t,t1,t2⟩:=F352_2_eq R hn hI;unfold F352_1_B;rw[t1,ob];rcases t2 with⟨o',rfl,h'⟩|⟨rfl,h'⟩
  ·exact .inl ⟨_,rfl,o',rfl,h'⟩
  ·exact .inr ⟨_,rfl,.inr ⟨rfl,h'⟩⟩) (by
  rintro _ ⟨o,rfl,hI⟩;exact⟨_,rfl,.inl ⟨o,rfl,hI⟩⟩)
 unfold F352;rw[g1,ob];rcases g2 with⟨o,rfl,hI⟩|⟨rfl,hI⟩
 ·refine⟨_,rfl,.inl ⟨o,rfl,hI.le,fun n hn i hi=> hI.all n i hn hn hi,fun k hk z=>?_⟩⟩
  obtain⟨n,i, -,q2,q3,q4⟩:=hI.least k hk;exact q4 (z n q2 i q3)
 ·exact⟨_,rfl,.inr ⟨rfl,hI⟩⟩
def lists(x:GComplex)(c:GContraction)(ms:T3s)(k:Nat):T3s:=(List.range x.Dims.length).map fun n=>(units (dc x n)).map fun u=> itr x c ms n u k
theorem lists_len{x:GComplex}{c:GContraction}{ms:T3s}{k:Nat}:(lists x c ms k).length=x.Dims.length:=by simp[lists]
theorem lists_at{x:GComplex}{c:GContraction}{ms:T3s}{k n:Nat}(hn:n < (lists x c ms k).length):(lists x c ms k)[n]=(units (dc x n)).map fun u=> itr x c ms n u k:=by simp[lists]
theorem F193_4_eq{x:GComplex}{c:GContraction}{ms:T3s}(R:ROK x c ms){n:Nat}(hn:n < x.Dims.length){l:List (List Int)}(hl:Rows x.Prime (dc x n) l)(hs:l.length≤1000):forR 0 (l.length:Int) (F193_4_B c x ⟨x.Prime,x.Dims,ms⟩ (n:Int)) F193_4_D l=some (l.map (turnF x c ms n)):=by
 rw[idx_loop (D:=F193_4_D) (fun _=> turnF x c ms n) (by omega) (fun i hi s h1 h2=> by
  have hv:=hl _ (List.getElem_mem hi);have e:s[i]? =some l[i]:=by rw[h2 i,if_neg (by omega)]; simp[hi]
  obtain⟨hi',e'⟩:=List.getElem?_eq_some_iff.1 e;unfold F193_4_B;rw[getI_nat hi',ob,e',(turn_eq R hn hv).2.1,ob,setI_nat hi',ob]) fun i s=> rfl]
 congr 1
 exact List.ext_getElem (by simp) fun i h1 h2=>(by simp)
theorem F193_3_eq{x:GComplex}{c:GContraction}{ms:T3s}(R:ROK x c ms)(k:Nat):forR 0 ((lists x c ms k).length:Int) (F193_3_B c x ⟨x.Prime,x.Dims,ms⟩) F193_3_D (lists x c ms k)=some (lists x c ms (k+1)):=by
 have hp1:1 < x.Prime:=by have:=R.kk.vx.p.range; omega
 have hdl:=R.kk.vx.dl;have hll:=lists_len (x:=x) (c:=c) (ms:=ms) (k:=k);rw[idx_loop (D:=F193_3_D) (fun n l=> l.map (turnF x c ms n)) (by omega) (fun n hn s h1 h2=> by
  have hn':n < x.Dims.length:=by omega
  have hd:=dc_le R.kk.vx n;have e:s[n]? =some (lists x c ms k)[n]:=by rw[h2 n,if_neg (by omega)]; simp[hn]
  obtain⟨hi',e'⟩:=List.getElem?_eq_some_iff.1 e;have hrow:Rows x.Prime (dc x n) (lists x c ms k)[n]:=fun r hr=> by
   rw[lists_at hn]at hr;obtain⟨u,hu,rfl⟩:=List.mem_map.1 hr;exact itr_ok R hn' ((units_red hp1 (dc x n)).ok u hu) k
  have hlen:((lists x c ms k)[n]).length≤1000:=by rw[lists_at hn,List.length_map,units_len]; omega
  unfold F193_3_B;rw[getI_nat hi',ob,e',F193_4_eq R hn' hrow hlen,ob,setI_nat hi',ob]) fun i s=> rfl]
 congr 1
 refine List.ext_getElem (by simp[lists]) fun n h1 h2=>?_;rw[List.getElem_mapIdx,lists_at (by simpa using h1),lists_at h2,List.map_map];rfl
def anyNz(l:List (List Int)):Bool:=l.any fun v=> !(v.all fun y=> decide (y=0))
theorem F209_eq{l:List (List Int)}(hl:l.length≤1000)(hr:∀v∈l,v.length≤1000):F209 l=some (anyNz l):=by
 unfold F209 anyNz;rw[F117_eq (fun v=> !(v.all fun y=> decide (y=0))) (by omega) (fun v hv=> by
  unfold F213;obtain⟨b,b1,b2⟩:=F92_tells (l:=v) (by have:=hr v hv; omega);have e:b=v.all fun y=> decide (y=0):=by rw[Bool.eq_iff_iff,b2]; simp
  rw[b1,ob,e]),ob]
theorem F208_t{x:GComplex}{c:GContraction}{ms:T3s}(R:ROK x c ms)(k:Nat):Tells (F208 (lists x c ms k) fun l=> F209 l) (¬AZ x c ms k):=by
 have hp1:1 < x.Prime:=by have:=R.kk.vx.p.range; omega
 have hdl:=R.kk.vx.dl;have hll:=lists_len (x:=x) (c:=c) (ms:=ms) (k:=k);rw[F208_eq anyNz (by omega) (fun l hl=> by
  obtain⟨n,hn,rfl⟩:=List.getElem_of_mem hl;have hd:=dc_le R.kk.vx n;rw[lists_at hn];refine F209_eq (by rw[List.length_map,units_len]; omega) fun v hv=>?_;obtain⟨u,hu,rfl⟩:=List.mem_map.1 hv;rw[(itr_ok R (by omega) ((units_red hp1 (dc x n)).ok u hu) k).len]; omega)]
 refine⟨_,rfl,?_⟩;unfold anyNz AZ;simp only[List.any_eq_true,Bool.not_eq_true',List.all_eq_false,decide_eq_true_eq,lists,List.mem_map,List.mem_range];constructor
 ·rintro⟨_,⟨n,hn,rfl⟩,_,hv,y,hy,hy0⟩ z
  obtain⟨u,hu,rfl⟩:=List.mem_map.1 hv;obtain⟨i,hi,rfl⟩:=List.mem_map.1 hu;exact hy0 (z n hn i (List.mem_range.1 hi) y hy)
 ·intro z
  refine Classical.byContradiction fun q=> z fun n hn i hi y hy=> Classical.byContradiction fun y0=> q ⟨_,⟨n,hn,rfl⟩,_,List.mem_map_of_mem (List.mem_map_of_mem (List.mem_range.2 hi)),y,hy,y0⟩
theorem rounds_impl{x:GComplex}{c:GContraction}{ms:T3s}(R:ROK x c ms):∃t,F193 c x ⟨x.Prime,x.Dims,ms⟩=some t∧((∃o:Nat,t=⟨(o:Int),true⟩∧o≤9∧AZ x c ms o∧∀k,k < o→¬AZ x c ms k)∨(t=⟨0,false⟩∧¬AZ x c ms 9)):=by
 have h:=R.kk.vx;have hdl:=h.dl;have e0:forR 0 (x.Dims.length:Int) (F193_1_B x) F193_1_D []=some (lists x c ms 0):=by
  have hl:x.Dims.length < 4611686018427387904:=by omega
  obtain⟨t,g1,g2⟩:=forR_inv (B:=F193_1_B x) (D:=F193_1_D) (hi:=(x.Dims.length:Int)) x.Dims.length rfl hl (fun n s=> s=(lists x c ms 0).take n) (fun t=> t=lists x c ms 0) (s:=[]) (by simp) (by
   rintro n _ hn rfl;left;have hd:=dc_le h n;have hn2:n < (lists x c ms 0).length:=by rw[lists_len]; exact hn
   refine⟨_,?_,(List.take_append_getElem hn2)⟩;unfold F193_1_B;rw[getI_getD hn 0,ob,dc_at h hn,F124_eq (by omega),ob,app_ok (by simp; omega) (by simp; omega),ob,lists_at hn2]
   congr 4
   rw[show(fun u=> itr x c ms n u 0)=id from rfl,List.map_id]) (by
   rintro _ rfl;exact⟨_,rfl,by rw[←lists_len (x:=x) (c:=c) (ms:=ms) (k:=0),List.take_length]⟩)
  rw[g1,g2]
 obtain⟨t,g1,g2⟩:=forR_inv (B:=F193_2_B c x ⟨x.Prime,x.Dims,ms⟩) (D:=F193_2_D) (hi:=10) 10 rfl (by decide) (fun k s=> s=lists x c ms k∧∀j,j < k→¬AZ x c ms j) (fun t=>(∃o:Nat,t= .inr ⟨(o:Int),true⟩∧o≤9∧AZ x c ms o∧∀k,k < o→¬AZ x c ms k)∨(t= .inl ()∧¬AZ x c ms 9)) (s:=lists x c ms 0) ⟨rfl,fun j hj=> absurd hj (Nat.not_lt_zero _)⟩ (by
  rintro k _ hk ⟨rfl,hj⟩;unfold F193_2_B;rcases(F208_t R k).case with⟨e,hz⟩|⟨e,hz⟩
  ·left
   rw[e,ob,if_pos rfl,F193_3_eq R k,ob];refine⟨_,rfl,rfl,fun j hjk=>?_⟩;by_cases q:j=k
   ·subst q; exact hz
   ·exact hj j (by omega)
  ·right
   rw[e,ob,if_neg Bool.false_ne_true];exact⟨_,rfl,.inl ⟨k,rfl,by omega,Classical.not_not.1 hz,hj⟩⟩) (by
  rintro _ ⟨rfl,hj⟩;exact⟨_,rfl,.inr ⟨rfl,hj 9 (by omega)⟩⟩)
 unfold F193;rw[e0,ob,g1,ob];rcases g2 with⟨o,rfl,h1,h2,h3⟩|⟨rfl,h1⟩
 ·exact⟨_,rfl,.inl ⟨o,rfl,h1,h2,h3⟩⟩
 ·exact⟨_,rfl,.inr ⟨rfl,h1⟩⟩
theorem rounds_same{x:GComplex}{c:GContraction}{ms:T3s}(R:ROK x c ms):∃t,F352 x c ms=some t∧F193 c x ⟨x.Prime,x.Dims,ms⟩=some t∧(t.b=true→0≤t.a∧t.a≤9)∧(t.b=false→t.a=0):=by
 obtain⟨t,a1,a2⟩:=rounds_spec R;obtain⟨u,b1,b2⟩:=rounds_impl R;have e:t=u:=by
  rcases a2 with⟨o,rfl,o1,o2,o3⟩|⟨rfl,o1⟩<;> rcases b2 with⟨q,rfl,q1,q2,q3⟩|⟨rfl,q1⟩
  ·have:o=q:=by
    rcases Nat.lt_trichotomy o q with z|z|z
    ·exact absurd o2 (q3 o z)
    ·exact z
    ·exact absurd q2 (o3 q z)
   rw[this]
  ·exact absurd (fun n hn i hi=> itr_mono R hn (unitv_ok (by have:=R.kk.vx.p.range; omega) hi) o1 (o2 n hn i hi)) q1
  ·exact absurd (fun n hn i hi=> itr_mono R hn (unitv_ok (by have:=R.kk.vx.p.range; omega) hi) q1 (q2 n hn i hi)) o1
  ·rfl
 subst e;refine⟨t,a1,b1,fun hb=>?_,fun hb=>?_⟩
 ·rcases a2 with⟨o,rfl,o1, -, -⟩|⟨rfl, -⟩
  ·simp only; omega
  ·cases hb
 ·rcases a2 with⟨o,rfl,o1, -, -⟩|⟨rfl, -⟩
  ·cases hb
  ·rfl
theorem rcode_same{x:GComplex}{c:GContraction}{ms:T3s}(hx:SmallC x)(hk:SmallK c)(hs:SmallT ms):∃k,F351 x c ms=some k∧((k=0∧ROK x c ms∧∃y,F50 x ms=some y∧F42 y=some true∧F49 x ms=some 0∧F192 c x=some true)∨(k≠0∧F172 x c ms=some ⟨0,⟨0,[],[]⟩,k⟩)):=by
 obtain⟨m,m1,m2,m3⟩:=codes_eq hx hs;unfold F351 F172;rw[m1,m2,ob,ob];by_cases c0:m=0
 ·have M:=m3 c0
  subst c0;rw[if_pos rfl,if_pos rfl];obtain⟨b,d1,d2,d3⟩:=(F249_tells hx hk M.v).same (F192_tells hx hk M.v);rw[d1,d2,ob,ob];cases b with
  |false=>
   rw[if_neg Bool.false_ne_true,if_neg Bool.false_ne_true];exact⟨_,rfl,.inr ⟨by decide,rfl⟩⟩
  |true=>
   have hC:=d3.1 rfl;rw[if_pos rfl,if_pos rfl];obtain⟨y,y1,y2,y3⟩:=pert_eq hx hs M;obtain⟨b',e1,e2,e3⟩:=(F39_tells y3).same (F42_tells y3);rw[y1,y2,ob,ob,e1,e2,ob,ob];cases b' with
   |false=>
    rw[if_neg Bool.false_ne_true,if_neg Bool.false_ne_true];exact⟨_,rfl,.inr ⟨by decide,rfl⟩⟩
   |true=>
    rw[if_pos rfl];exact⟨_,rfl,.inl ⟨rfl,⟨⟨hx,M.v,hC.1⟩,M⟩,y,rfl,e2,rfl,rfl⟩⟩
 ·rw[if_neg c0,if_neg c0]
  exact⟨_,rfl,.inr ⟨c0,rfl⟩⟩
theorem Fam.step{x y:GComplex}{f:T3s}(F:Fam x y f){n:Nat}(hn:n+1 < x.Dims.length){i:Nat}(hi:i < dc x (n+1)):VecOK x.Prime (dc x n) (rowAt (x.Maps.getD n []) i)∧VecOK x.Prime (dc y (n+1)) (rowAt (f.getD (n+1) []) i)∧F80 x.Prime (f.getD n []) (rowAt (x.Maps.getD n []) i) (dc y n:Int)=some (lin x.Prime (dc y n) (rowAt (x.Maps.getD n []) i) (f.getD n []))∧F119 x.Prime (dc y n:Int) (rowAt (x.Maps.getD n []) i) (f.getD n [])=some (lin x.Prime (dc y n) (rowAt (x.Maps.getD n []) i) (f.getD n []))∧VecOK x.Prime (dc y n) (lin x.Prime (dc y n) (rowAt (x.Maps.getD n []) i) (f.getD n []))∧
  F273 y ((n+1:Nat):Int) (rowAt (f.getD (n+1) []) i)=some (lin x.Prime (dc y n) (rowAt (f.getD (n+1) []) i) (y.Maps.getD n []))∧F91 y ((n+1:Nat):Int) (rowAt (f.getD (n+1) []) i)=some (lin x.Prime (dc y n) (rowAt (f.getD (n+1) []) i) (y.Maps.getD n []))∧(lin x.Prime (dc y n) (rowAt (f.getD (n+1) []) i) (y.Maps.getD n [])).length≤8:=by
 have hd:=dc_le F.vx n;have hdy:=dc_le F.vy n;have hl:=F.l;have v1:=row_ok (maps_tab F.vx hn) hi;have v2:=row_ok (F.t (n+1) hn) hi;obtain⟨a1,a2,a3⟩:=linT F.vx.p (F.t n (by omega)) (by omega) (by omega) v1;obtain⟨b1,b2,b3,b4⟩:=df_eq F.sy F.vy (n:=n+1) (by omega) (v:=rowAt (f.getD (n+1) []) i) (by rw[F.pp]; exact v2);have e:dfF y (n+1) (rowAt (f.getD (n+1) []) i)=lin x.Prime (dc y n) (rowAt (f.getD (n+1) []) i) (y.Maps.getD n []):=by
  unfold dfF;rw[if_neg (by omega),Nat.add_sub_cancel,F.pp]
 rw[e]at b1 b2 b4;exact⟨v1,v2,a1,a2,a3,b1,b2,b4⟩
theorem VecOK.row{p:Int}{w:Nat}{v:List Int}(h:VecOK p w v):RowOK p (w:Int) v:=⟨by rw[h.len],fun y hy=> by
 obtain⟨j,hj,rfl⟩:=List.getElem_of_mem hy;have:=h.rng j (by rw[←h.len]; exact hj)
 rwa[nth_lt hj]at this⟩
def sg(p:Int)(k:Nat):Int:=if k% 2=0 then 1 else p - 1
theorem sg_rng{p:Int}(hp:2≤p∧p≤7)(k:Nat):0≤sg p k∧sg p k < p:=by unfold sg; split <;> omega
theorem sg_next(p:Int)(k:Nat):p - sg p k=sg p (k+1):=by
 unfold sg;by_cases h:k% 2=0
 ·rw[if_pos h,if_neg (by omega)]
 ·rw[if_neg h,if_pos (by omega)]; omega
def smF(x:GComplex)(c:GContraction)(ms:T3s)(n:Nat)(z:List Int):Nat→List Int
 |0=> zv (dc x n)
 |k+1=> subv x.Prime (smF x c ms n z k) (itr x c ms n z k) (-(sg x.Prime k))
theorem smF_ok{x:GComplex}{c:GContraction}{ms:T3s}(R:ROK x c ms){n:Nat}(hn:n < x.Dims.length){z:List Int}(hz:VecOK x.Prime (dc x n) z):∀k,VecOK x.Prime (dc x n) (smF x c ms n z k)
 |0=> zv_ok (by have:=R.kk.vx.p.range; omega) _
 |k+1=> sub_ok (by have:=R.kk.vx.p.range; omega) (smF_ok R hn hz k).len (itr_ok R hn hz k).len
theorem rem2(k:Nat):remI (k:Int) 2=some ((k% 2:Nat):Int):=by
 rw[remI_ok (by decide)]
 congr 1
theorem F350_4_eq{x:GComplex}{c:GContraction}{ms:T3s}(hp:2≤x.Prime∧x.Prime≤7){w:Nat}(hw:w≤1000){sm z:List Int}(hs:VecOK x.Prime w sm)(hz:VecOK x.Prime w z)(k:Nat)(hk:k≤100)(x4:T2 Int Bool)(o4:T3s)(q5 v12 x12:Int)(l15:List Int)(o7:List (List Int))(v14:Int):
  forR 0 (z.length:Int) (F350_4_B x c ms x4 o4 q5 v12 x12 l15 o7 v14 z (k:Int)) (F350_4_D x c ms x4 o4 q5 v12 x12 l15 o7 v14 z (k:Int)) sm=some (subv x.Prime sm z (-(sg x.Prime k))):=by
 have hl:=hs.len;have hol:=hz.len;rw[show(z.length:Int)=(sm.length:Int) by omega,idx_loop (l:=sm) (B:=F350_4_B x c ms x4 o4 q5 v12 x12 l15 o7 v14 z (k:Int)) (D:=F350_4_D x c ms x4 o4 q5 v12 x12 l15 o7 v14 z (k:Int)) (fun i a=>(a+nth z i*(1 - 2*((k% 2:Nat):Int)))% x.Prime) (by omega) (fun i hi s hs1 hk'=>?_) (fun i s=> rfl)]
 ·congr 1
  have hsl:(subv x.Prime sm z (-(sg x.Prime k))).length=w:=by simp[subv,hl,hol]
  apply List.ext_getElem (by simp[hl,hsl]);intro i h1 h2;have hi:i < w:=by omega
  have:=nth_sub (p:=x.Prime) (k:= -(sg x.Prime k)) hl hol hi;rw[nth_lt h2,nth_lt (show i < sm.length by omega)]at this;rw[this];simp only[List.getElem_mapIdx];have e0:∀A:Int,(A+nth z i*(1 - 2*((k% 2:Nat):Int)))% x.Prime=(A - -(sg x.Prime k)*nth z i)% x.Prime:=by
   intro A;unfold sg;by_cases h:k% 2=0
   ·rw[if_pos h,h]
    congr 1
    omega
   ·rw[if_neg h,show k% 2=1 by omega]
    have e:A - -(x.Prime - 1)*nth z i=(A+nth z i*(1 - 2*((1:Nat):Int)))+x.Prime*nth z i:=by
     rw[Int.neg_mul,Int.sub_mul,Int.one_mul];have:nth z i*(1 - 2*((1:Nat):Int))= - nth z i:=by omega
     rw[this]; omega
    rw[e,Int.add_mul_emod_self_left]
  exact e0 _
 ·have h1:s[i]? =sm[i]?:=by rw[hk' i,if_neg (Nat.lt_irrefl _)]
  have h2:s[i]'(by omega)=sm[i]:=by
   have:=h1;rw[List.getElem?_eq_getElem (by omega),List.getElem?_eq_getElem hi]at this;exact Option.some.inj this
  have a1:=hs.rng i (by omega);rw[nth_lt hi]at a1;have a2:=hz.rng i (by omega);have hr:((k% 2:Nat):Int)=0∨((k% 2:Nat):Int)=1:=by omega
  have hm: -7≤nth z i*(1 - 2*((k% 2:Nat):Int))∧nth z i*(1 - 2*((k% 2:Nat):Int))≤7:=by
   rcases hr with hr|hr <;> rw[hr] <;> omega
  unfold F350_4_B;rw[getI_nat (show i < s.length by omega),ob,h2,nth_get (by omega),ob,rem2,ob,chk_ok (by omega) (by omega),ob,chk_ok (by omega) (by omega),ob,chk_ok (by omega) (by omega),ob,chk_ok (by omega) (by omega),ob,F127_eq hp,ob,setI_nat (by omega),ob]
theorem F350_3_eq{x:GComplex}{c:GContraction}{ms:T3s}(R:ROK x c ms){n:Nat}(hn:n < x.Dims.length){z:List Int}(hz:VecOK x.Prime (dc x n) z){k:Nat}(hk:k≤9)(x4:T2 Int Bool)(o4:T3s)(q5 x12:Int)(l15:List Int)(o7:List (List Int))(v14:Int):
  forR 0 (k:Int) (F350_3_B x c ms x4 o4 q5 ((n+1:Nat):Int) x12 l15 o7 v14) (F350_3_D x c ms x4 o4 q5 ((n+1:Nat):Int) x12 l15 o7 v14) (zv (dc x n),z)=some (smF x c ms n z k):=by
 have hd:=dc_le R.kk.vx n;have hxl:=R.kk.sx.d;obtain⟨t,h1,h2⟩:=forR_inv (B:=F350_3_B x c ms x4 o4 q5 ((n+1:Nat):Int) x12 l15 o7 v14) (D:=F350_3_D x c ms x4 o4 q5 ((n+1:Nat):Int) x12 l15 o7 v14) k rfl (by omega) (fun i s=> s=(smF x c ms n z i,itr x c ms n z i)) (fun t=> t=smF x c ms n z k) (s:=(zv (dc x n),z)) rfl (by
  rintro i s hi rfl;left;refine⟨_,?_,rfl⟩;unfold F350_3_B;dsimp only;rw[F350_4_eq R.kk.vx.p.range (by omega) (smF_ok R hn hz i) (itr_ok R hn hz i) i (by omega),ob,show((n+1:Nat):Int) - 1=(n:Int) by omega,chk_ok (by omega) (by omega),ob,(turn_eq R hn (itr_ok R hn hz i)).1,ob];rfl) (by
  rintro s rfl;exact⟨_,rfl,rfl⟩)
 rw[h1,h2]
theorem F155_4_eq{x:GComplex}{c:GContraction}{ms:T3s}(R:ROK x c ms){n:Nat}(hn:n < x.Dims.length){z:List Int}(hz:VecOK x.Prime (dc x n) z){k:Nat}(hk:k≤9):
  forR 0 (k:Int) (F155_4_B x c ⟨x.Prime,x.Dims,ms⟩ ((n+1:Nat):Int)) F155_4_D (zv (dc x n),z,1)=some (smF x c ms n z k):=by
 have hd:=dc_le R.kk.vx n;have hp:=R.kk.vx.p.range;have hxl:=R.kk.sx.d;obtain⟨t,h1,h2⟩:=forR_inv (B:=F155_4_B x c ⟨x.Prime,x.Dims,ms⟩ ((n+1:Nat):Int)) (D:=F155_4_D) k rfl (by omega) (fun i s=> s=(smF x c ms n z i,itr x c ms n z i,sg x.Prime i)) (fun t=> t=smF x c ms n z k) (s:=(zv (dc x n),z,1)) rfl (by
  rintro i s hi rfl;left;refine⟨_,?_,rfl⟩;unfold F155_4_B;have:=sg_rng hp i;dsimp only;rw[F173_eq hp this (smF_ok R hn hz i) (itr_ok R hn hz i) (by omega),ob,show((n+1:Nat):Int) - 1=(n:Int) by omega,chk_ok (by omega) (by omega),ob,(turn_eq R hn (itr_ok R hn hz i)).2.1,ob,chk_ok (by omega) (by omega),ob,sg_next];rfl) (by
  rintro s rfl;exact⟨_,rfl,rfl⟩)
 rw[h1,h2]
def trF(x:GComplex)(c:GContraction)(ms:T3s)(k n i:Nat):List Int:=dnF x c n (smF x c ms n (lin x.Prime (dc x n) (rowAt (c.Up.getD (n+1) []) i) (ms.getD n [])) k)
def trT(x:GComplex)(c:GContraction)(ms:T3s)(k n:Nat):List (List Int):=(List.range (hN c (n+1))).map (trF x c ms k n)
def trC(x:GComplex)(c:GContraction)(ms:T3s)(k:Nat):GComplex:=⟨x.Prime,(List.range x.Dims.length).map fun n=>(hN c n:Int),(List.range (x.Dims.length - 1)).map (trT x c ms k)⟩
theorem up_row{x:GComplex}{c:GContraction}(K:KOK x c){n:Nat}(hn:n < x.Dims.length){i:Nat}(hi:i < hN c n):VecOK x.Prime (dc x n) (rowAt (c.Up.getD n []) i):=
 (K.tabs hn).2.2.2.1.rows _ (getD_mem (by have:=(K.tabs hn).2.2.2.1.len; omega) [])
theorem z_ok{x:GComplex}{c:GContraction}{ms:T3s}(R:ROK x c ms){n:Nat}(hn:n+1 < x.Dims.length){i:Nat}(hi:i < hN c (n+1)):F80 x.Prime (ms.getD n []) (rowAt (c.Up.getD (n+1) []) i) (dc x n:Int)=some (lin x.Prime (dc x n) (rowAt (c.Up.getD (n+1) []) i) (ms.getD n []))∧F119 x.Prime (dc x n:Int) (rowAt (c.Up.getD (n+1) []) i) (ms.getD n [])=some (lin x.Prime (dc x n) (rowAt (c.Up.getD (n+1) []) i) (ms.getD n []))∧VecOK x.Prime (dc x n) (lin x.Prime (dc x n) (rowAt (c.Up.getD (n+1) []) i) (ms.getD n [])):=
 linT R.kk.vx.p (R.tab hn) (by have:=dc_le R.kk.vx (n+1); omega) (by have:=dc_le R.kk.vx n; omega) (up_row R.kk hn hi)
theorem tr_ok{x:GComplex}{c:GContraction}{ms:T3s}(R:ROK x c ms){n:Nat}(hn:n+1 < x.Dims.length){i:Nat}(hi:i < hN c (n+1))(k:Nat):VecOK x.Prime (hN c n) (trF x c ms k n i):=
 (dn_eq R.kk (show n < x.Dims.length by omega) (smF_ok R (by omega) (z_ok R hn hi).2.2 k)).2.2
theorem trC_small{x:GComplex}{c:GContraction}{ms:T3s}(R:ROK x c ms)(k:Nat):SmallC (trC x c ms k):=by
 have hxl:=R.kk.sx.d;refine⟨by simp[trC]; omega,by simp[trC]; omega,fun m hm=>?_⟩;obtain⟨n,hn,rfl⟩:=List.mem_map.1 hm;have hn':=List.mem_range.1 hn;have h8:=(R.kk.tabs (show n+1 < x.Dims.length by omega)).2.1;have h9:=(R.kk.tabs (show n < x.Dims.length by omega)).2.1;refine⟨by simp[trT]; omega,fun l hl=>?_⟩;obtain⟨i,hi,rfl⟩:=List.mem_map.1 hl;have:=(tr_ok R (show n+1 < x.Dims.length by omega) (List.mem_range.1 hi) k).len;omega
theorem lin_unitT{p:Int}(hp:IsP p){c w:Nat}{m:List (List Int)}(T:TabN p c w m)(hc:c≤1000)(hw:w≤1000){i:Nat}(hi:i < c):lin p w (unitv c i) m=rowAt m i:=by
 have hp1:1 < p:=by have:=hp.range; omega
 have hu:=unitv_ok hp1 hi;have H:=lin_okof hp T.len T.rows hc hw hu;refine(lin_vec H).ext (row_ok T hi) fun j hj=>(lin_at H hj).trans ?_;rw[hu.len,show dot (nth (unitv c i)) m c j=nth (rowAt m i) j by
  rw[←dot_unit (m:=m) (j:=j) hi];exact sumI_congr fun k _=> by simp only; rw[nth_unit hi]]
 exact .refl _ _
theorem F350_2_eq{x:GComplex}{c:GContraction}{ms:T3s}(R:ROK x c ms){n:Nat}(hn:n+1 < x.Dims.length){k:Nat}(hk:k≤9)(o4:T3s)(q5 x12:Int){l15:List Int}(hl:n+1 < l15.length)(hv:l15.getD (n+1) 0=(hN c (n+1):Int)):
  loopW (F350_2_S x c ms ⟨(k:Int),true⟩ o4 q5 ((n+1:Nat):Int) x12 l15) ([],0)=some (trT x c ms k n):=by
 have K:=R.kk;have hp1:1 < x.Prime:=by have:=K.vx.p.range; omega
 have hxl:=K.sx.d;have h8:=(K.tabs hn).2.1;have T:=(K.tabs hn).2.2.2.1;have hd:=dc_le K.vx n;have hd1:=dc_le K.vx (n+1);have hml:=K.vx.ml;have hmm:=R.mm.l;obtain⟨t,h1,h2⟩:=loopW_inv (S:=F350_2_S x c ms ⟨(k:Int),true⟩ o4 q5 ((n+1:Nat):Int) x12 l15) (fun s=> hN c (n+1) - s.2.toNat) (fun s=>∃i:Nat,i≤hN c (n+1)∧s=((List.range i).map (trF x c ms k n),(i:Int))) (fun t=> t=trT x c ms k n) (s:=([],0)) ⟨0,Nat.zero_le _,rfl⟩ (by
  rintro s ⟨i,hi,rfl⟩;unfold F350_2_S;dsimp only;rw[getI_getD hl 0,ob,hv];by_cases hlt:i < hN c (n+1)
  ·left
   have z:=z_ok R hn hlt;have e1:F284 x c ((n+1:Nat):Int) (unitv (hN c (n+1)) i)=some (rowAt (c.Up.getD (n+1) []) i):=by
    rw[(up_eq K hn (unitv_ok hp1 hlt)).1];unfold upF;rw[lin_unitT K.vx.p T (by omega) (by omega) hlt]
   refine⟨((List.range (i+1)).map (trF x c ms k n),((i+1:Nat):Int)),?_,⟨i+1,hlt,rfl⟩,by simp only; omega⟩;rw[if_pos (by omega),show((n+1:Nat):Int) - 1=(n:Int) by omega,chk_ok (by omega) (by omega),ob,getI_getD (show n < ms.length by omega) [],ob,F272_eq hlt (by omega),ob,e1,ob,F99_dc K.sx K.vx (by omega),ob,z.1,ob,mkL_ok (dc x n) (by rw[z.2.2.len]) (by omega) (by omega),ob,show List.replicate (dc x n) (0:Int)=zv (dc x n) from rfl,F350_3_eq R (by omega) z.2.2 hk,ob,(dn_eq K (show n < x.Dims.length by omega) (smF_ok R (by omega) z.2.2 k)).1,ob,app_ok (by simp; omega) (by simp; omega),ob,chk_ok (by omega) (by omega),ob,List.range_succ,List.map_append];rfl
  ·right
   have:i=hN c (n+1):=by omega
   subst this;rw[if_neg (by omega)];exact⟨_,rfl,rfl⟩)
 rw[h1,h2]
theorem spec_tr{x:GComplex}{c:GContraction}{ms:T3s}(R:ROK x c ms){k:Nat}(hk:k≤9):∃t,forR 0 (x.Dims.length:Int) (F350_1_B x c ms ⟨(k:Int),true⟩) (F350_1_D x c ms ⟨(k:Int),true⟩) ([],[],x.Prime)=some t∧t=((trC x c ms k).Dims,(trC x c ms k).Maps,x.Prime):=by
 have K:=R.kk;have hxl:=K.sx.d;refine forR_inv (B:=F350_1_B x c ms ⟨(k:Int),true⟩) (D:=F350_1_D x c ms ⟨(k:Int),true⟩) x.Dims.length rfl (by omega) (fun n s=> s=((List.range n).map (fun n=>(hN c n:Int)),(List.range (n - 1)).map (trT x c ms k),x.Prime)) _ rfl ?_ ?_
 ·rintro n s hn rfl
  left;have e:F283 x (n:Int)=some (hN c n:Int):=by rw[(hm_eq K.sx K.vx hn).1,(K.tabs hn).1]
  unfold F350_1_B;dsimp only;rw[e,ob,app_ok (by simp; omega) (by simp; omega),ob,show List.map (fun n=>(hN c n:Int)) (List.range n)++[(hN c n:Int)]=(List.range (n+1)).map (fun n=>(hN c n:Int)) by rw[List.range_succ,List.map_append]; rfl];cases n with
  |zero=> exact⟨_,by rw[if_pos (show((0:Nat):Int)=0 from rfl)],rfl⟩
  |succ n=>
   rw[if_neg (by omega),F350_2_eq R hn hk _ _ _ (l15:=(List.range (n+1+1)).map (fun n=>(hN c n:Int))) (by simp) (by simp[List.getD_eq_getElem?_getD]),ob,app_ok (by simp; omega) (by simp; omega),ob];exact⟨_,rfl,by simp only[Nat.add_sub_cancel]; rw[List.range_succ (n:=n),List.map_append]; rfl⟩
 ·rintro s rfl
  exact⟨_,rfl,rfl⟩
theorem cpL_full{r w:List Int}(h:r.length=w.length):cpL r w=w:=by
 unfold cpL;rw[h,List.take_length,List.drop_of_length_le (by omega),List.append_nil]
def trH(x:GComplex)(c:GContraction)(ms:T3s)(k n i:Nat):List (List Int):=(List.range (hN c (n+1))).map fun q=> if q < i then trF x c ms k n q else zv (hN c n)
theorem trH_len(x:GComplex)(c:GContraction)(ms:T3s)(k n i:Nat):(trH x c ms k n i).length=hN c (n+1):=by simp[trH]
theorem trH_next{x:GComplex}{c:GContraction}{ms:T3s}{k n i:Nat}(hi:i < hN c (n+1)):(trH x c ms k n i).set i (trF x c ms k n i)=trH x c ms k n (i+1):=by
 apply List.ext_getElem (by simp[trH]);intro j h1 h2;rw[List.getElem_set];simp only[trH,List.getElem_map,List.getElem_range];by_cases e:i=j
 ·subst e; rw[if_pos rfl,if_pos (by omega)]
 ·rw[if_neg e]
  by_cases h:j < i
  ·rw[if_pos h,if_pos (by omega)]
  ·rw[if_neg h,if_neg (by omega)]
theorem trH_all(x:GComplex)(c:GContraction)(ms:T3s)(k n:Nat):trH x c ms k n (hN c (n+1))=trT x c ms k n:=by
 unfold trH trT;exact List.map_congr_left fun q hq=> by rw[if_pos (List.mem_range.1 hq)]
theorem F155_3_eq{x:GComplex}{c:GContraction}{ms:T3s}(R:ROK x c ms){n:Nat}(hn:n+1 < x.Dims.length){k:Nat}(hk:k≤9){S:T3s}(hS:n < S.length)(h0:S.getD n []=trH x c ms k n 0):
  forR 0 ((c.Up.getD (n+1) []).length:Int) (F155_3_B x c ⟨x.Prime,x.Dims,ms⟩ (k:Int) ((n+1:Nat):Int) (c.Up.getD (n+1) [])) F155_3_D S=some (S.set n (trT x c ms k n)):=by
 have K:=R.kk;have h:=K.vx;have hxl:=K.sx.d;have h8:=(K.tabs hn).2.1;have T:=(K.tabs hn).2.2.2.1;have hd:=dc_le K.vx n;have hml:=K.vx.ml;have hmm:=R.mm.l;have hx6:=h.dl;obtain⟨t,h1,h2⟩:=forR_inv (B:=F155_3_B x c ⟨x.Prime,x.Dims,ms⟩ (k:Int) ((n+1:Nat):Int) (c.Up.getD (n+1) [])) (D:=F155_3_D) (hi:=((c.Up.getD (n+1) []).length:Int)) (hN c (n+1)) (by rw[T.len]) (by omega) (fun i s=> s=S.set n (trH x c ms k n i)) (fun t=> t=S.set n (trT x c ms k n)) (s:=S) (by
  rw[←h0];apply List.ext_getElem (by simp);intro j a b;rw[List.getElem_set];split
  ·rename_i e; subst e; rw[List.getD_eq_getElem?_getD,List.getElem?_eq_getElem hS]; rfl
  ·rfl) (by
  rintro i s hi rfl;left;refine⟨S.set n (trH x c ms k n (i+1)),?_,rfl⟩;have z:=z_ok R hn hi;have e91:F91 ⟨x.Prime,x.Dims,ms⟩ ((n+1:Nat):Int) (rowAt (c.Up.getD (n+1) []) i)=some (lin x.Prime (dc x n) (rowAt (c.Up.getD (n+1) []) i) (ms.getD n [])):=by
   unfold F91;rw[if_neg (by omega),F86_eq (x:=⟨x.Prime,x.Dims,ms⟩) hxl,ob,if_neg (by simp only; omega),chk_ok (by omega) (by omega),ob];simp only;rw[show((n+1:Nat):Int) - 1=(n:Int) by omega,getI_getD (show n < x.Dims.length by omega) 0,ob,getI_getD (show n < ms.length by omega) [],ob,dc_at h (show n < x.Dims.length by omega),z.2.1];rfl
  unfold F155_3_B;rw[getI_getD (show i < (c.Up.getD (n+1) []).length by rw[T.len]; exact hi) [],ob,show(c.Up.getD (n+1) []).getD i []=rowAt (c.Up.getD (n+1) []) i from rfl,e91,ob,show((n+1:Nat):Int) - 1=(n:Int) by omega,chk_ok (by omega) (by omega),ob,F102_dc K.sx K.vx (by omega),ob,mkL_ok (dc x n) rfl (by omega) (by omega),ob,show List.replicate (dc x n) (0:Int)=zv (dc x n) from rfl,F155_4_eq R (by omega) z.2.2 hk,ob,getI_getD (show n < (S.set n (trH x c ms k n i)).length by simpa using hS) [],ob];have e2:(S.set n (trH x c ms k n i)).getD n []=trH x c ms k n i:=by simp[List.getD_eq_getElem?_getD,hS]
  have hil:i < (trH x c ms k n i).length:=by rw[trH_len]; exact hi
  have e3:(trH x c ms k n i)[i]=zv (hN c n):=by simp[trH]
  have v:=(dn_eq K (show n < x.Dims.length by omega) (smF_ok R (by omega) z.2.2 k));rw[e2,getI_nat hil,ob,e3,v.2.1,ob,cpL_full (by rw[(zv_ok (p:=x.Prime) (by have:=h.p.range; omega) _).len,v.2.2.len]),setI_nat hil,ob,setI_nat (by simpa using hS),ob,List.set_set,←trH_next hi];rfl) (by
  rintro s rfl;exact⟨_,rfl,by rw[trH_all]⟩)
 rw[h1,h2]
def mxT(x:GComplex)(c:GContraction)(ms:T3s)(k i:Nat):T3s:=(List.range (x.Dims.length - 1)).map fun m=> if m+1 < i then trT x c ms k m else trH x c ms k m 0
theorem impl_tr{x:GComplex}{c:GContraction}{ms:T3s}(R:ROK x c ms){k:Nat}(hk:k≤9):forR 1 ((x.Dims.length:Int) - 1+1) (F155_2_B x c ⟨x.Prime,x.Dims,ms⟩ (k:Int)) F155_2_D (mxT x c ms k 1)=some (trC x c ms k).Maps:=by
 have K:=R.kk;have hxl:=K.sx.d;have hx1:=K.vx.dl.1;have hu:=K.sk.u;obtain⟨t,h1,h2⟩:=forR_from (B:=F155_2_B x c ⟨x.Prime,x.Dims,ms⟩ (k:Int)) (D:=F155_2_D) (lo:=1) (hi:=(x.Dims.length:Int) - 1+1) 1 x.Dims.length rfl (by omega) hx1 (by omega) (fun i s=> 1≤i∧s=mxT x c ms k i) (fun t=> t=(trC x c ms k).Maps) (s:=mxT x c ms k 1) ⟨Nat.le_refl _,rfl⟩ (by
  rintro i s hi ⟨i1,rfl⟩;left;obtain⟨n,rfl⟩:∃n,i=n+1:=⟨i - 1,by omega⟩;refine⟨mxT x c ms k (n+1+1),?_,by omega,rfl⟩;have hl:(mxT x c ms k (n+1)).length=x.Dims.length - 1:=by simp[mxT]
  unfold F155_2_B;rw[getI_getD (show n+1 < c.Up.length by omega) [],ob,F155_3_eq R hi hk (S:=mxT x c ms k (n+1)) (by omega) (by
   rw[List.getD_eq_getElem?_getD,List.getElem?_eq_getElem (by omega)];simp[mxT]),ob]
  congr 2
  apply List.ext_getElem (by simp[mxT]);intro j a b;rw[List.getElem_set];simp only[mxT,List.getElem_map,List.getElem_range];by_cases e:n=j
  ·subst e; rw[if_pos rfl,if_pos (by omega)]
  ·rw[if_neg e]
   by_cases h:j+1 < n+1
   ·rw[if_pos h,if_pos (by omega)]
   ·rw[if_neg h,if_neg (by omega)]) (by
  rintro s ⟨-,rfl⟩;refine⟨_,rfl,?_⟩;unfold mxT trC;exact List.map_congr_left fun q hq=> by rw[if_pos (by have:=List.mem_range.1 hq; omega)])
 rw[h1,h2]
theorem zM_tr{x:GComplex}{c:GContraction}{ms:T3s}(R:ROK x c ms)(k:Nat):zM (trC x c ms k).Dims=mxT x c ms k 1:=by
 unfold zM mxT trC;simp only[List.length_map,List.length_range];refine List.map_congr_left fun q hq=>?_;have hq':=List.mem_range.1 hq;rw[if_neg (by omega)];unfold zT trH zv;simp only[List.getD_eq_getElem?_getD,List.getElem?_map,List.getElem?_range (show q+1 < x.Dims.length by omega),List.getElem?_range (show q < x.Dims.length by omega),Option.map_some,Option.getD_some,Int.toNat_natCast,Nat.not_lt_zero,if_false];apply List.ext_getElem (by simp);intro j a b;simp
theorem tr_same{x:GComplex}{c:GContraction}{ms:T3s}(hx:SmallC x)(hk:SmallK c)(hs:SmallT ms):∃w d,F350 x c ms=some ⟨w,d⟩∧F155 x c ms=some ⟨w,d⟩∧SmallC w:=by
 obtain⟨k,k1,k2⟩:=rcode_same hx hk hs;unfold F350 F155;rw[k1,ob];rcases k2 with⟨rfl,R,y,y1,y2,y3,y4⟩|⟨k2,k3⟩
 ·obtain⟨t,t1,t2,t3,t4⟩:=rounds_same R
  have K:=R.kk;have hxl:=K.sx.d;have hx1:=K.vx.dl.1;have hu:=K.sk.u;obtain⟨ta,tb⟩:=t;rw[if_pos rfl,t1,ob];unfold F172;rw[y3,ob,if_pos rfl,y4,ob,if_pos rfl,y1,ob,y2,ob,if_pos rfl,t2,ob];cases tb with
  |true=>
   obtain⟨a0,a9⟩:=t3 rfl;obtain⟨q,rfl⟩:∃q:Nat,ta=(q:Int):=⟨ta.toNat,by simp only at a0; omega⟩;simp only at a9;obtain⟨r,r1,rfl⟩:=spec_tr R (k:=q) (by omega);rw[if_pos rfl,if_pos rfl,ob,if_pos rfl,r1,ob];have e1:forR 0 (c.Up.length:Int) (F155_1_B c) F155_1_D []=some (trC x c ms q).Dims:=by
    obtain⟨t,h1,h2⟩:=forR_inv (B:=F155_1_B c) (D:=F155_1_D) (hi:=(c.Up.length:Int)) x.Dims.length (by omega) (by omega) (fun i s=> s=(List.range i).map fun n=>(hN c n:Int)) (fun t=> t=(trC x c ms q).Dims) (s:=[]) rfl (by
     rintro i s hi rfl;left;refine⟨_,?_,rfl⟩;unfold F155_1_B;rw[getI_getD (show i < c.Up.length by omega) [],ob,app_ok (by simp; omega) (by simp; omega),ob,List.range_succ,List.map_append];rfl) (by
     rintro s rfl;exact⟨_,rfl,rfl⟩)
    rw[h1,h2]
   have e2:F74 x.Prime (trC x c ms q).Dims=some ⟨x.Prime,(trC x c ms q).Dims,mxT x c ms q 1⟩:=by
    rw[F74_big (by simp[trC]; omega) (by simp[trC]; omega) (fun d hd=> by
     obtain⟨n,hn,rfl⟩:=List.mem_map.1 hd;have:=(K.tabs (List.mem_range.1 hn)).2.1;omega),zM_tr R]
   dsimp only;rw[e1,ob,e2,ob,F86_eq hxl,ob,impl_tr R (by omega),ob];exact⟨_,_,rfl,rfl,trC_small R q⟩
  |false=>
   rw[if_neg Bool.false_ne_true,if_neg Bool.false_ne_true,ob,if_neg (by decide)];exact⟨_,_,rfl,rfl,.zero⟩
 ·rw[if_neg k2,k3,ob,if_neg k2]
  exact⟨_,_,rfl,rfl,.zero⟩
theorem F228_reflT{w:GContraction}(h:SmallK w):F228 w w=some true:=by
 unfold F228;rw[F17_same h.d.1 h.d.2,ob,if_pos rfl,F17_same h.u.1 h.u.2,ob,if_pos rfl,F17_same h.b.1 h.b.2,ob,if_pos rfl]
theorem FM327_mkT{w:GContraction}(h:SmallK w){k:Int}(h0:0≤k)(h1:k≤1300000000000000000):∃y m,FM327 w k=some (y,m)∧0≤m∧m≤k+3500000000000000000:=by
 obtain⟨d,j1,e1,k1⟩:=F21_mk h.d.1 h.d.2 (k:=k) h0 (by omega);have a1:=k1.2.1;have b1:=k1.2.2.1;obtain⟨u,j2,e2,k2⟩:=F21_mk h.u.1 h.u.2 (k:=j1) (by omega) (by omega);have a2:=k2.2.1;have b2:=k2.2.2.1;obtain⟨b,j3,e3,k3⟩:=F21_mk h.b.1 h.b.2 (k:=j2) (by omega) (by omega);have a3:=k3.2.1;have b3:=k3.2.2.1;refine⟨⟨d,u,b⟩,j3,?_,by omega,by omega⟩;unfold FM327;rw[e1,ob];simp only;rw[e2,ob];simp only;rw[e3,ob]
theorem law19{x:GComplex}{c:GContraction}{ms:T3s}(hx:LongC x)(hc:LongK c)(hm:LongL (LongL (LongL Long0)) ms):L363 x c ms:=by
 unfold L363;obtain⟨z,a1,a2⟩:=F10_eq hx (s:=1048576) (by decide) (by decide);rcases a2 with a2|⟨a2,a3,hx'⟩
 ·exact .inl ⟨z,a1,a2⟩
 obtain⟨y,b1,b2⟩:=F224_eq hc a2 a3;rcases b2 with b2|⟨b2,b3,hk⟩
 ·exact .inr (.inl ⟨z,y,a1,by omega,b1,b2⟩)
 obtain⟨v,q1,q2⟩:=F11_eq hm b2 b3;rcases q2 with q2|⟨q2,q3,hs1,hs2⟩
 ·exact .inr (.inr (.inl ⟨z,y,v,a1,by omega,b1,by omega,q1,q2⟩))
 have e1:F225 c=some c:=by
  unfold F225;rw[F13_eq hk.d.1 hk.d.2,ob,F13_eq hk.u.1 hk.u.2,ob,F13_eq hk.b.1 hk.b.2,ob]
 obtain⟨w,d,s1,s2,hw⟩:=tr_same hx' hk ⟨hs1,hs2⟩;obtain⟨x',m0,f1,f2,f3, -⟩:=FM20_mk hx' (k:=1) (by decide) (by decide);obtain⟨c',m1,g1,g2,g3⟩:=FM327_mkT hk (k:=m0) (by omega) (by omega);obtain⟨l',m2,i1,i2⟩:=F21_mk hs1 hs2 (k:=m1) (by omega) (by omega);obtain⟨w',mg,j1,j2,j3,j4⟩:=FM20_mk hw (k:=1) (by decide) (by decide);have i3:=i2.2.1;exact .inr (.inr (.inr ⟨z,y,v,x,c,ms,w,d,(x',m0),(c',m1),(l',m2),(w',mg),a1,by omega,b1,by omega,q1,by omega,F12_eq hx',e1,F13_eq hs1 hs2,s1,s2,F16_same hw,F16_same hx',F228_reflT hk,F17_same hs1 hs2,f1,g1,i1,by simp only; omega,j1,j4,by simp only; omega⟩))
end Rv
