/- What the abstract code answers: typed functions, part 3. -/
import Derived.Test.YtgiabfngopkpmaaGreatPps1
namespace Rv
set_option linter.unusedVariables false
set_option linter.unusedSimpArgs false
set_option maxRecDepth 100000
noncomputable section
def F138_1_S(a0:Int)(a1:Int)(v5_1:Int):Option ((Int)⊕(Int)):=
 (chk (v5_1*a1)).bind fun x4=>
(remI x4 a0).bind fun x5=>
if x5=1 then
 some (.inr v5_1)
else
 (chk (v5_1+1)).bind fun x8=>
 some (.inl x8)
def F138(a0:Int)(a1:Int):Option Int:=
 (zD (F138_1_S a0 a1) 1).bind fun zv5_1=>
 some zv5_1
def I138_1(a0:Int)(a1:Int)(v5_1:Int)(e:Env)(h:Heap):Prop:=
 ∃k2:Nat,h=⟨[],k2⟩∧e.length=15∧e.at 0=V.int .i64 a0∧e.at 1=V.int .i64 a1∧e.at 5=V.int .i64 v5_1
def P138_1(a0:Int)(a1:Int)(zv5_1:Int)(x:Ex)(e:Env)(h:Heap):Prop:=
 x= .normal∧∃k2:Nat,h=⟨[],k2⟩∧e.length=15∧e.at 5=V.int .i64 zv5_1
theorem l138_1(a0:Int)(a1:Int){s:Int}{t:Int}(hF:zD (F138_1_S a0 a1) s=some t){e:Env}{h:Heap}(hI:I138_1 a0 a1 s e h):W A c138_1 e h (P138_1 a0 a1 t):=by
 show W A (.block 0 (.loop false b138_1)) e h _;rw[qi];refine W_loop hF 0 (by obtain⟨_,rfl,_⟩:=hI; rfl) (I138_1 a0 a1) hI ?_
 ·rintro v5_1 e h ⟨k2,rfl,h_1⟩ o ho
  unfold F138_1_S at ho;obtain⟨x4,gx4,ho⟩:=bS ho;have wx4:=qx gx4;obtain⟨x5,gx5,ho⟩:=bS ho;obtain⟨w6a,w6b⟩:=rem_w gx5;by_cases c7:x5=1
  ·rw[if_pos c7]at ho
   cases ho;simp only[simprocAttr,R0,b138_1, *];intro ht; subst ht;simp only[simprocAttr,RR,RB];refine ai rfl (ei _ (ai rfl ?_));simp only[simprocAttr,R0, *]
  ·rw[if_neg c7]at ho
   obtain⟨x8,gx8,ho⟩:=bS ho;have wx8:=qx gx8;cases ho;simp only[simprocAttr,R0,b138_1, *];refine ai rfl (ei _ (ai rfl ?_));simp only[simprocAttr,R0, *]
theorem s138(a0:Int)(a1:Int){r:Int}(hF:F138 a0 a1=some r):ans A 138 [V.int .i64 a0,V.int .i64 a1]=some (Enc.enc r):=by
 refine qu (f:=p138) rfl rfl rfl fun e hl he=>?_;have h0_0:e.at 0=V.int .i64 a0:=he 0 _ rfl;have h1_0:e.at 1=V.int .i64 a1:=he 1 _ rfl;have hl_0:e.length=15:=hl;clear he hl;show W A b138 e ⟨[],0⟩ _;unfold F138 at hF;obtain⟨zv5_1,gt9,hF⟩:=bS hF;simp only[simprocAttr,R0,b138, *];refine W.mono (l138_1 a0 a1 gt9 (ei _ (ai rfl ?_))) ?_
 ·simp only[simprocAttr,R0, *]
 rintro _ e _ ⟨rfl,k2,rfl,h_3⟩;cases hF;simp only[simprocAttr,R0, *];exact qd (by simp only[simprocAttr,R0,qe,p138,Rs.ev,qa, *])
def F139_1_B(other:List Int)(p by_:Int)(i:Int)(row:List Int):Option (List Int⊕List Int):=
 (getI other i).bind fun y=>(getI row i).bind fun r=>(chk (p - by_)).bind fun q=>(chk (q*y)).bind fun m=>(chk (r+m)).bind fun s=>(remI s p).bind fun z=>(setI row i z).bind fun row'=> some (.inl row')
def F139_1_D(i:Int)(row:List Int):Option (List Int):=some row
def F139(row other:List Int)(p by_:Int):Option (List Int):=forR 0 (other.length:Int) (F139_1_B other p by_) F139_1_D row
theorem d139{row other row':List Int}{p by_:Int}(hF:F139 row other p by_=some row')(E:List (Nat×Option (List V)))(c:Nat){key uid key2 uid2:Nat}(g1:E[key]? =some (uid,some (row.map Enc.enc)))(g2:E[key2]? =some (uid2,some (other.map Enc.enc)))(hne:key2≠key):
  res A 139 [V.sl key uid 0 row.length 1,V.sl key2 uid2 0 other.length 1,V.int .i64 p,V.int .i64 by_] ⟨E,c⟩=some (V.undef,⟨E.set key (uid,some (List.map Enc.enc row')),c⟩)∧row'.length=row.length:=by
 have hk:key < E.length:=(List.getElem?_eq_some_iff.1 g1).1
 suffices∃h',res A 139 [V.sl key uid 0 row.length 1,V.sl key2 uid2 0 other.length 1,V.int .i64 p,V.int .i64 by_] ⟨E,c⟩=some (V.undef,h')∧h'=⟨E.set key (uid,some (List.map Enc.enc row')),c⟩∧row'.length=row.length by
  obtain⟨h',q1,rfl,q2⟩:=this;exact⟨q1,q2⟩
 refine res_ex (f:=p139) rfl rfl rfl fun e hl he=>?_;have h0_0:e.at 0=V.sl key uid 0 row.length 1:=he 0 _ rfl;have h1_0:e.at 1=V.sl key2 uid2 0 other.length 1:=he 1 _ rfl;have h2_0:e.at 2=V.int .i64 p:=he 2 _ rfl;have h3_0:e.at 3=V.int .i64 by_:=he 3 _ rfl;have hl_0:e.length=33:=hl;clear he hl;show W A b139 e ⟨E,c⟩ _;unfold F139 at hF;simp only[simprocAttr,R1,b139,hl_0,h0_0,h1_0,h2_0,h3_0];show W A (.block 0 (.loop true b139_1)) _ _ _;rw[qi];refine qr hF _ rfl (fun i s e h=> s.length=row.length∧h=⟨E.set key (uid,some (s.map Enc.enc)),c⟩∧e.length=33∧e.at 0=V.sl key uid 0 row.length 1∧e.at 2=V.int .i64 p∧e.at 3=V.int .i64 by_∧e.at 10=V.sl key2 uid2 0 other.length 1∧e.at 11=V.int .i64 (other.length:Int)∧e.at 12=V.int .i64 i) ?_ ?_ ?_
 ·refine⟨rfl,?_,?_⟩
  ·rw[set_self g1]
  ·simp only[simprocAttr,R1,hl_0,h0_0,h1_0,h2_0,h3_0]
 ·clear hl_0 h0_0 h1_0 h2_0 h3_0
  rintro i s e h ⟨hs,rfl,h_1⟩ hlt hw s' ho;unfold F139_1_B at ho;obtain⟨y,gy,ho⟩:=bS ho;obtain⟨ya,yb⟩:=ql gy;have yc:=qV gy;obtain⟨r,gr,ho⟩:=bS ho;obtain⟨ra,rb⟩:=ql gr;have rc:=qV gr;obtain⟨q,gq,ho⟩:=bS ho;have wq:=qx gq;obtain⟨m,gm,ho⟩:=bS ho;have wm:=qx gm;obtain⟨t,gt,ho⟩:=bS ho;have wt:=qx gt;obtain⟨z,gz,ho⟩:=bS ho;obtain⟨wz0,wz⟩:=rem_w gz;obtain⟨row2,gs,ho⟩:=bS ho;obtain⟨s1,s2,s3,s4,s5⟩:=xr gs;cases ho;have oy:qf none (List.drop (Int.toNat i) (other.map Enc.enc))=some (V.int .i64 y):=qE (by rw[List.getElem?_map,yb]; rfl);have orr:qf none (List.drop (Int.toNat i) (s.map Enc.enc))=some (V.int .i64 r):=qE (by rw[List.getElem?_map,rb]; rfl);have n1:∀x,(E.set key x)[key]? =some x:=fun x=> qI hk;have n2:∀x,(E.set key x)[key2]? =some (uid2,some (other.map Enc.enc)):=fun x=>(qS hne).trans g2;have s5':List.take (Int.toNat i) (s.map Enc.enc)++[V.int .i64 z]++List.drop (Int.toNat i+1) (s.map Enc.enc)=List.map Enc.enc row2:=s5;have rc':i < (row.length:Int):=by omega
  simp only[simprocAttr,R1,b139_1,h_1,eq_true hlt,hw,ya,eq_true yc,oy,ra,eq_true rc',orr,n1,n2,wq,wm,wt,wz0,wz,s3,s5',List.set_set];refine ai rfl ⟨by omega,rfl,?_⟩;simp only[simprocAttr,R1,h_1,hw]
 ·clear hl_0 h0_0 h1_0 h2_0 h3_0
  rintro i s e h ⟨hs,rfl,h_1⟩ hge t1 ho;unfold F139_1_D at ho;cases ho;simp only[simprocAttr,R1,b139_1,h_1,eq_false hge];intro ht; subst ht;refine ai (fun _=> trivial) ⟨?_,rfl,hs⟩;simp only[simprocAttr,R1,qe,p139,mapO];rfl
theorem i139{row other row':List Int}{p by_:Int}(hF:F139 row other p by_=some row')(E:List (Nat×Option (List V)))(c:Nat){key uid:Nat}(g1:E[key]? =some (uid,some (row.map Enc.enc))):
  res A 139 [V.sl key uid 0 row.length 1,V.isl (other.map Enc.enc),V.int .i64 p,V.int .i64 by_] ⟨E,c⟩=some (V.undef,⟨E.set key (uid,some (List.map Enc.enc row')),c⟩)∧row'.length=row.length:=by
 have hk:key < E.length:=(List.getElem?_eq_some_iff.1 g1).1
 suffices∃h',res A 139 [V.sl key uid 0 row.length 1,V.isl (other.map Enc.enc),V.int .i64 p,V.int .i64 by_] ⟨E,c⟩=some (V.undef,h')∧h'=⟨E.set key (uid,some (List.map Enc.enc row')),c⟩∧row'.length=row.length by
  obtain⟨h',q1,rfl,q2⟩:=this;exact⟨q1,q2⟩
 refine res_ex (f:=p139) rfl rfl rfl fun e hl he=>?_;have h0_0:e.at 0=V.sl key uid 0 row.length 1:=he 0 _ rfl;have h1_0:e.at 1=V.isl (other.map Enc.enc):=he 1 _ rfl;have h2_0:e.at 2=V.int .i64 p:=he 2 _ rfl;have h3_0:e.at 3=V.int .i64 by_:=he 3 _ rfl;have hl_0:e.length=33:=hl;clear he hl;show W A b139 e ⟨E,c⟩ _;unfold F139 at hF;simp only[simprocAttr,R1,b139,hl_0,h0_0,h1_0,h2_0,h3_0];show W A (.block 0 (.loop true b139_1)) _ _ _;rw[qi];refine qr hF _ rfl (fun i s e h=> s.length=row.length∧h=⟨E.set key (uid,some (s.map Enc.enc)),c⟩∧e.length=33∧e.at 0=V.sl key uid 0 row.length 1∧e.at 2=V.int .i64 p∧e.at 3=V.int .i64 by_∧e.at 10=V.isl (other.map Enc.enc)∧e.at 11=V.int .i64 (other.length:Int)∧e.at 12=V.int .i64 i) ?_ ?_ ?_
 ·refine⟨rfl,?_,?_⟩
  ·rw[set_self g1]
  ·simp only[simprocAttr,R1,hl_0,h0_0,h1_0,h2_0,h3_0]
 ·clear hl_0 h0_0 h1_0 h2_0 h3_0
  rintro i s e h ⟨hs,rfl,h_1⟩ hlt hw s' ho;unfold F139_1_B at ho;obtain⟨y,gy,ho⟩:=bS ho;obtain⟨ya,yb⟩:=ql gy;have yc:=qV gy;obtain⟨r,gr,ho⟩:=bS ho;obtain⟨ra,rb⟩:=ql gr;have rc:=qV gr;obtain⟨q,gq,ho⟩:=bS ho;have wq:=qx gq;obtain⟨m,gm,ho⟩:=bS ho;have wm:=qx gm;obtain⟨t,gt,ho⟩:=bS ho;have wt:=qx gt;obtain⟨z,gz,ho⟩:=bS ho;obtain⟨wz0,wz⟩:=rem_w gz;obtain⟨row2,gs,ho⟩:=bS ho;obtain⟨s1,s2,s3,s4,s5⟩:=xr gs;cases ho;have orr:qf none (List.drop (Int.toNat i) (s.map Enc.enc))=some (V.int .i64 r):=qE (by rw[List.getElem?_map,rb]; rfl);have n1:∀x,(E.set key x)[key]? =some x:=fun x=> qI hk;have s5':List.take (Int.toNat i) (s.map Enc.enc)++[V.int .i64 z]++List.drop (Int.toNat i+1) (s.map Enc.enc)=List.map Enc.enc row2:=s5;have rc':i < (row.length:Int):=by omega
  simp only[simprocAttr,R1,b139_1,h_1,eq_true hlt,hw,ya,yb,ra,eq_true rc',orr,n1,wq,wm,wt,wz0,wz,s3,s5',List.set_set];refine ai rfl ⟨by omega,rfl,?_⟩;simp only[simprocAttr,R1,h_1,hw]
 ·clear hl_0 h0_0 h1_0 h2_0 h3_0
  rintro i s e h ⟨hs,rfl,h_1⟩ hge t1 ho;unfold F139_1_D at ho;cases ho;simp only[simprocAttr,R1,b139_1,h_1,eq_false hge];intro ht; subst ht;refine ai (fun _=> trivial) ⟨?_,rfl,hs⟩;simp only[simprocAttr,R1,qe,p139,mapO];rfl
def F133_1_B(rows:List (List Int))(i:Int)(s:List (List Int)):Option (List (List Int)⊕List (List Int)):=(getI rows i).bind fun r=>(F96 r).bind fun d=>(app 24 s [d]).bind fun l=> some (.inl l)
def F133_1_D(i:Int)(s:List (List Int)):Option (List (List Int)):=some s
def F133_3_B(p b:Int)(k:Int)(row:List Int):Option (List Int⊕List Int):=(getI row k).bind fun x=>(chk (x*b)).bind fun m=>(remI m p).bind fun z=>(setI row k z).bind fun r=> some (.inl r)
def F133_3_D(k:Int)(row:List Int):Option (List Int):=some row
def F133_4_B(p c done:Int)(i:Int)(l:List (List Int)):Option (List (List Int)⊕List (List Int)):=
 if i=done then some (.inl l)else(getI l i).bind fun r=>(getI l done).bind fun o=>(getI r c).bind fun x=>(F139 r o p x).bind fun r'=>(setI l i r').bind fun l'=> some (.inl l')
def F133_4_D(i:Int)(l:List (List Int)):Option (List (List Int)):=some l
def F133_2_B(p:Int)(c:Int)(s:List (List Int)×Int):Option ((List (List Int)×Int)⊕(List (List Int)×Int)):=
 if 0≤s.2∧s.2≤s.1.length then
  (F128 (s.1.drop s.2.toNat) (fun r=> F137 r c)).bind fun at_=>
  if at_ < 0 then some (.inl s)else
  (chk (s.2+at_)).bind fun j=>(getI s.1 j).bind fun a=>(getI s.1 s.2).bind fun b=>(setI s.1 s.2 a).bind fun l1=>(setI l1 j b).bind fun l2=>
  (getI l2 s.2).bind fun row=>(getI row c).bind fun x=>(F138 p x).bind fun by_=>
  (forR 0 (row.length:Int) (F133_3_B p by_) F133_3_D row).bind fun row'=>(setI l2 s.2 row').bind fun l3=>
  (forR 0 (l3.length:Int) (F133_4_B p c s.2) F133_4_D l3).bind fun l4=>(chk (s.2+1)).bind fun d=> if d=(l4.length:Int)then some (.inr (l4,d))else some (.inl (l4,d))
 else none
def F133_2_D(c:Int)(s:List (List Int)×Int):Option (List (List Int)×Int):=some s
def F133(p:Int)(rows:List (List Int)):Option (List (List Int)):=
 (forR 0 (rows.length:Int) (F133_1_B rows) F133_1_D []).bind fun l=> if(l.length:Int)=0 then some l else(getI l 0).bind fun r0=>
 (forR 0 (r0.length:Int) (F133_2_B p) F133_2_D (l,0)).bind fun t=> if 0≤t.2∧t.2≤t.1.length then some (t.1.take t.2.toNat)else none
set_option maxHeartbeats 8000000 in
theorem d133(p:Int)(rows:List (List Int)){r:List (List Int)}(hF:F133 p rows=some r):∃v h',res A 133 [V.int .i64 p,V.isl (rows.map Enc.enc)] Heap.empty=some (v,h')∧
  ∃u vs l,v=V.sl 0 u 0 r.length 1∧h'.ents[0]? =some (u,some vs)∧zZ h'.ents vs l (fun k=> 1≤k)∧r=l.take r.length:=by
 refine res_dp (f:=p133) rfl rfl rfl fun e hl he=>?_;have h0_0:e.at 0=V.int .i64 p:=he 0 _ rfl;have h1_0:e.at 1=V.isl (rows.map Enc.enc):=he 1 _ rfl;have hl_0:e.length=134:=hl;clear he hl;show W A b133 e ⟨[],0⟩ _;unfold F133 at hF;obtain⟨l0,gl0,hF⟩:=bS hF;simp only[simprocAttr, -Int.reduceNatCast',R1,b133,hl_0,h0_0,h1_0];show W A (.block 0 (.loop true b133_1)) _ _ _;rw[qi];refine qr gl0 _ rfl (fun i s e h=>∃u vs,h.ents[0]? =some (u,some vs)∧zZ h.ents vs s (fun k=> 1≤k)∧e.length=134∧e.at 0=V.int .i64 p∧e.at 5=V.sl 0 u 0 s.length 1∧e.at 15=V.isl (rows.map Enc.enc)∧e.at 16=V.int .i64 (rows.length:Int)∧e.at 17=V.int .i64 i) ?_ ?_ ?_
 ·refine⟨0,[],rfl,.nil,?_⟩
  simp only[simprocAttr, -Int.reduceNatCast',R1,hl_0,h0_0,h1_0]
 ·clear hl_0 h0_0 h1_0
  rintro i s e ⟨E,c⟩ ⟨u,vs,g1,g2,hl_1,h0_1,h5_1,h15_1,h16_1,h17_1⟩ hlt hw s' ho;unfold F133_1_B at ho;simp only at g1 g2;obtain⟨x,gx,ho⟩:=bS ho;obtain⟨xa,xb⟩:=ql gx;obtain⟨d,gd,ho⟩:=bS ho;have wd:=t96 x gd;obtain⟨l,gl,ho⟩:=bS ho;obtain⟨q1,q2,rfl⟩:=app_w gl;have hE:=wA ho; subst hE;have hE0:0 < E.length:=(List.getElem?_eq_some_iff.1 g1).1;have w9:∀x y c',zO 1 24 (.sl 0 u 0 s.length 1) 1 [V.sl E.length c 0 d.length 1] ⟨E++[x]++[y],c'⟩=_:=fun x y c'=> zz (E:=E++[x]++[y]) (vs:=vs) (by rw[wY,List.getElem?_append_left hE0]; exact g1) g2.len (by simpa using q1) (by simpa using q2);simp only[simprocAttr, -Int.reduceNatCast',R1,b133_1,hl_1,h0_1,h5_1,h15_1,h16_1,h17_1,eq_true hlt,hw,xa,xb,wd,ze,zt,le1,qR,ge2a,ge2b,w9];refine ai rfl ⟨_,_,qI (by simp),?_,?_⟩
  ·refine(zZ.snoc (k:=E.length) (u:=c) (r:=d) (E:=((E++[(c,some (d.map Enc.enc))]++[(c+1,some [V.sl E.length c 0 d.length 1])]).set 0 (c+1+1,some (vs++[V.sl E.length c 0 d.length 1])))) (g2.frame fun k hk hb=>?_) ?_ (by omega) fun i k' u' n hv e=>?_)
   ·rw[qS (by omega),wY,List.getElem?_append_left hk]
   ·rw[qS (by omega)]; exact ge2a ..
   ·subst e
    obtain⟨r,hr⟩:∃r,s[i]? =some r:=⟨s[i]'(by have:=(List.getElem?_eq_some_iff.1 hv).1; have:=g2.len; omega),by simp⟩;obtain⟨k2,u2,e2,g,_⟩:=g2.row i _ r hv hr;cases e2;have:=(List.getElem?_eq_some_iff.1 g).1;omega
  ·simp only[simprocAttr, -Int.reduceNatCast',R1,hl_1,h0_1,h5_1,h15_1,h16_1,h17_1,hw,wJ]
 ·clear hl_0 h0_0 h1_0
  rintro i s e ⟨E,c⟩ ⟨u,vs,g1,g2,hl_1,h0_1,h5_1,h15_1,h16_1,h17_1⟩ hge t1 ho;unfold F133_1_D at ho;have hE:=wA ho; subst hE;simp only at g1 g2;simp only[simprocAttr, -Int.reduceNatCast',R1,b133_1,hl_1,h0_1,h5_1,h15_1,h16_1,h17_1,eq_false hge];intro ht; subst ht;by_cases hz:(s.length:Int)=0
  ·rw[if_pos hz]at hF ⊢
   have hE:=wA hF; subst hE;refine ai (fun _=> trivial) ⟨_,?_,u,vs,s,rfl,g1,g2,by rw[vQ]⟩;simp only[simprocAttr, -Int.reduceNatCast',R1,qe,p133,Rs.ev,hl_1,h5_1]
  ·rw[if_neg hz]at hF ⊢
   obtain⟨r0,gr0,hF⟩:=bS hF;obtain⟨ra,rb⟩:=ql gr0;have rc:=qV gr0;obtain⟨t,gt,hF⟩:=bS hF;obtain⟨k0,u0,v1,v2,v3⟩:=g2.get rb;have o1:=qE v1;simp only[Int.toNat_zero,vW]at o1;simp only[simprocAttr, -Int.reduceNatCast',R1,hl_1,h0_1,h5_1,h15_1,h16_1,h17_1,eq_true rc,g1,o1,Int.toNat_zero,yG];show W A (.block 2 (.loop true b133_2)) _ _ _;rw[qi];refine qr gt _ rfl (fun i s e h=>∃u vs,h.ents[0]? =some (u,some vs)∧zZ h.ents vs s.1 (fun k=> 1≤k)∧e.length=134∧e.at 0=V.int .i64 p∧e.at 5=V.sl 0 u 0 s.1.length 1∧e.at 8=V.int .i64 s.2∧e.at 34=V.int .i64 (r0.length:Int)∧e.at 35=V.int .i64 i) ?_ ?_ ?_
   ·refine⟨u,vs,g1,g2,?_⟩
    simp only[simprocAttr, -Int.reduceNatCast',R1,hl_1,h0_1,h5_1,h15_1,h16_1,h17_1]
   ·clear hl_1 h0_1 h5_1 h15_1 h16_1 h17_1 g1 g2 k0 u0 v1 v2 v3 o1
    rintro cc ⟨l,done⟩ e ⟨E,c⟩ ⟨u,vs,g1,g2,hl_1,h0_1,h5_1,h8_1,h34_1,h35_1⟩ hlt hw s' ho;unfold F133_2_B at ho;simp only at g1 g2 h5_1 h8_1 ho;have hE0:0 < E.length:=(List.getElem?_eq_some_iff.1 g1).1;split at ho
    case isFalse=> cases ho
    rename_i hdn;obtain⟨hd0,hd1⟩:=hdn;have hdn:done.toNat≤l.length:=by omega
    obtain⟨at_,gat,ho⟩:=bS ho;have wat:ans A 128 [V.isl (List.map Enc.enc (l.drop done.toNat)),V.fn 137 [] [V.iptr [V.int .i64 cc]]]=some (V.int .i64 at_):=s128 (l.drop done.toNat) (fun r=> F137 r cc)
     (Clo1.of (by intro h f; simp only[RZ,mapO]) (by intro h f; simp only[RZ,mapO]) (by intro f; simp only[RZ,RB]) (by intro f; simp only[RZ,RB]) (fun x _ hr=> s137 x cc hr)) gat
    have g1':∀x,(E++[x])[0]? =some (u,some vs):=fun x=>(List.getElem?_append_left hE0).trans g1;have g2':∀x,zZ (E++[x]) vs l (fun k=> 1≤k∧k < E.length):=fun x=>(g2.mono (fun k hk h=> ai h hk)).frame fun k hk _=> List.getElem?_append_left hk;have wfz:∀x c,frz ⟨E++[x],c⟩ 16 (V.sl 0 u done.toNat (l.length - done.toNat) 1)=some (V.isl (List.map Enc.enc (l.drop done.toNat))):=fun x c=> by
     have:=(g2' x).fz c (g1' x) (off:=done.toNat) (n:=l.length - done.toNat) (by omega)
     rwa[wZ (by simp)]at this
    have wsl:=slice_lo (key:=0) (uid:=u) (n:=l.length) hd0 (by omega);by_cases hat:at_ < 0
    ·rw[if_pos hat]at ho
     have hE:=wA ho; subst hE;simp only[simprocAttr, -Int.reduceNatCast',R1,b133_2,hl_1,h0_1,h5_1,h8_1,h34_1,h35_1,eq_true hlt,hw,vZ,uK,wsl,wfz,wat,qR,set_last,eq_true hat];refine ai rfl ⟨u,vs,g1' _,(g2' _).mono fun k _ h=> h.1,?_⟩;simp only[simprocAttr, -Int.reduceNatCast',R1,hl_1,h0_1,h5_1,h8_1,h34_1,h35_1,hw]
    ·rw[if_neg hat]at ho
     obtain⟨j,gj,ho⟩:=bS ho;have wj:=qx gj;obtain⟨a,ga,ho⟩:=bS ho;obtain⟨aa,ab⟩:=ql ga;have ac:=qV ga;obtain⟨b,gb,ho⟩:=bS ho;obtain⟨ba,bb⟩:=ql gb;have bc:=qV gb;obtain⟨l1,gl1,ho⟩:=bS ho;have e1:=setI_eq gl1;obtain⟨l2,gl2,ho⟩:=bS ho;have e2:=setI_eq gl2;subst e1; subst e2;obtain⟨row,grow,ho⟩:=bS ho;obtain⟨rowa,rowb⟩:=ql grow;obtain⟨x,gx,ho⟩:=bS ho;obtain⟨xa,xb⟩:=ql gx;have xc:=qV gx;obtain⟨by_,gby,ho⟩:=bS ho;have wby:ans A 138 [V.int .i64 p,V.int .i64 x]=some (V.int .i64 by_):=s138 p x gby;obtain⟨row',gr',ho⟩:=bS ho;obtain⟨l3,gl3,ho⟩:=bS ho;have e3:=setI_eq gl3;subst e3;obtain⟨l4,gl4,ho⟩:=bS ho;obtain⟨d1,gd1,ho⟩:=bS ho;have wd1:=qx gd1;obtain⟨ka,ua,va1,va2,va3⟩:=(g2' (c,some [V.int .i64 cc])).get ab;obtain⟨kb,ub,vb1,vb2,vb3⟩:=(g2' (c,some [V.int .i64 cc])).get bb;have hml:=g2.len;have hsw:=(g2' (c,some [V.int .i64 cc])).swap vb1 va1 bb ab;generalize hvs2:(vs.set done.toNat (V.sl ka ua 0 a.length 1)).set j.toNat (V.sl kb ub 0 b.length 1)=vs2 at hsw;have hl2:((l.set done.toNat a).set j.toNat b).length=l.length:=by simp
     generalize hll2:(l.set done.toNat a).set j.toNat b=l2 at*;have oa:=qE va1;have ob:=qE vb1;have td1:List.take done.toNat vs++[V.sl ka ua 0 a.length 1]++List.drop (done.toNat+1) vs=vs.set done.toNat (V.sl ka ua 0 a.length 1):=tsd (by omega);have td2:List.take j.toNat (vs.set done.toNat (V.sl ka ua 0 a.length 1))++[V.sl kb ub 0 b.length 1]++List.drop (j.toNat+1) (vs.set done.toNat (V.sl ka ua 0 a.length 1))=vs2:=(tsd (by simp; omega)).trans hvs2;have hd1':done.toNat+1≤vs.length:=by omega
     have hj1':j.toNat+1≤vs.length:=by omega
     have n1:∀y z,((E++[y]).set 0 z)[0]? =some z:=fun y z=> qI (by simp);have n2:∀y z,((E++[y]).set 0 z)[E.length]? =some y:=fun y z=>(qS (by omega)).trans (qR _ _);have hsw2:∀z,zZ ((E++[(c,some [V.int .i64 cc])]).set 0 z) vs2 l2 (fun k=> 1≤k∧k < E.length):=fun z=> hsw.frame fun k hk h=> qS (by omega);obtain⟨kr,ur,vr1,vr2,vr3⟩:=(hsw2 (u,some vs2)).get rowb;have orr:=qE vr1;have ox:qf none (List.drop cc.toNat (row.map Enc.enc))=some (V.int .i64 x):=qE (by rw[List.getElem?_map,xb]; rfl);have hvl:vs2.length=l.length:=by rw[hsw.len,hl2]
     simp only[simprocAttr, -Int.reduceNatCast',R1,b133_2,hl_1,h0_1,h5_1,h8_1,h34_1,h35_1,eq_true hlt,hw,vZ,uK,wsl,wfz,wat,qR,set_last,eq_false hat,wj,aa,eq_true ac,ba,eq_true bc,g1',oa,ob,yN,eq_true hd1',eq_true hj1',td1,td2,List.set_set,n1,n2,orr,xa,eq_true xc,vr2,ox,wby];have hd1v:d1=done+1:=by
      unfold chk at gd1; split at gd1
      ·cases gd1; rfl
      ·cases gd1
     have kr0:1≤kr:=vr3.1;have krE:kr < E.length:=vr3.2;have m0:∀z,(((E++[(c,some [V.int .i64 cc])]).set 0 (u,some vs2)).set kr z)[0]? =some (u,some vs2):=fun z=>(qS (by omega)).trans (n1 _ _);have mk:∀z,(((E++[(c,some [V.int .i64 cc])]).set 0 (u,some vs2)).set kr z)[kr]? =some z:=fun z=> qI (by simp; omega);have mN:∀z,(((E++[(c,some [V.int .i64 cc])]).set 0 (u,some vs2)).set kr z)[E.length]? =some (c,some [V.int .i64 cc]):=fun z=>(qS (by omega)).trans (n2 _ _);have hdl:done < (l.length:Int):=by omega
     show W A (.block 4 (.loop true b133_3)) _ _ _;rw[qi];refine qr gr' _ rfl (fun k s e h=> s.length=row.length∧h=⟨((E++[(c,some [V.int .i64 cc])]).set 0 (u,some vs2)).set kr (ur,some (s.map Enc.enc)),c+1⟩∧e.length=134∧e.at 0=V.int .i64 p∧e.at 5=V.sl 0 u 0 l.length 1∧e.at 8=V.int .i64 done∧e.at 9=V.ptr E.length c 0∧e.at 11=V.int .i64 by_∧e.at 34=V.int .i64 (r0.length:Int)∧e.at 35=V.int .i64 cc∧e.at 76=V.int .i64 (row.length:Int)∧e.at 77=V.int .i64 k) ?_ ?_ ?_
     ·refine⟨rfl,by rw[set_self vr2],?_⟩
      simp only[simprocAttr, -Int.reduceNatCast',R1,hl_1,h0_1,h5_1,h8_1,h34_1,h35_1]
     ·clear hl_1 h0_1 h5_1 h8_1 h34_1 h35_1
      rintro k q e h ⟨hq,rfl,hl_1,h0_1,h5_1,h8_1,h9_1,h11_1,h34_1,h35_1,h76_1,h77_1⟩ hlt3 hw3 s3 ho3;unfold F133_3_B at ho3;obtain⟨x3,gx3,ho3⟩:=bS ho3;obtain⟨x3a,x3b⟩:=ql gx3;obtain⟨m3,gm3,ho3⟩:=bS ho3;have wm3:=qx gm3;obtain⟨z3,gz3,ho3⟩:=bS ho3;obtain⟨wz30,wz3⟩:=rem_w gz3;obtain⟨q2,gq2,ho3⟩:=bS ho3;obtain⟨s31,s32,s33,s34,s35⟩:=xr gq2;have hE:=wA ho3; subst hE;have o3:qf none (List.drop k.toNat (q.map Enc.enc))=some (V.int .i64 x3):=qE (by rw[List.getElem?_map,x3b]; rfl);have hk3:k < (row.length:Int):=hlt3;have s35':List.take k.toNat (q.map Enc.enc)++[V.int .i64 z3]++List.drop (k.toNat+1) (q.map Enc.enc)=List.map Enc.enc q2:=s35;simp only[simprocAttr, -Int.reduceNatCast',R1,b133_3,hl_1,h0_1,h5_1,h8_1,h9_1,h11_1,h34_1,h35_1,h76_1,h77_1,hw3,eq_true hlt3,hd0,eq_true hdl,m0,mk,orr,x3a,o3,wm3,wz30,wz3,s33,s35',List.set_set];refine ai rfl ⟨by omega,rfl,?_⟩;simp only[simprocAttr, -Int.reduceNatCast',R1,hl_1,h0_1,h5_1,h8_1,h9_1,h11_1,h34_1,h35_1,h76_1,h77_1,hw3]
     ·clear hl_1 h0_1 h5_1 h8_1 h34_1 h35_1
      rintro k q e h ⟨hq,rfl,hl_1,h0_1,h5_1,h8_1,h9_1,h11_1,h34_1,h35_1,h76_1,h77_1⟩ hge3 t3 ho3;unfold F133_3_D at ho3;have hE:=wA ho3; subst hE;simp only[simprocAttr, -Int.reduceNatCast',R1,b133_3,hl_1,h0_1,h5_1,h8_1,h9_1,h11_1,h34_1,h35_1,h76_1,h77_1,eq_false hge3];intro ht; subst ht;have hmw:=zZ.write (hsw2 (u,some vs2)) rowb vr1 hq;have hl3:((l2.set done.toNat q).length:Int)=(l.length:Int):=by rw[yN,hl2]
      rw[hl3]at gl4;show W A (.block 6 (.loop true b133_4)) _ _ _;rw[qi];refine qr gl4 _ rfl (fun i s e h=> s.length=l.length∧h.ents[0]? =some (u,some vs2)∧zZ h.ents vs2 s (fun k=> 1≤k∧k < E.length)∧h.ents[E.length]? =some (c,some [V.int .i64 cc])∧e.length=134∧e.at 0=V.int .i64 p∧e.at 5=V.sl 0 u 0 l.length 1∧e.at 8=V.int .i64 done∧e.at 9=V.ptr E.length c 0∧e.at 34=V.int .i64 (r0.length:Int)∧e.at 35=V.int .i64 cc∧e.at 99=V.int .i64 (l.length:Int)∧e.at 100=V.int .i64 i) ?_ ?_ ?_
      ·refine⟨by omega,m0 _,hmw,mN _,?_⟩
       simp only[simprocAttr, -Int.reduceNatCast',R1,hl_1,h0_1,h5_1,h8_1,h9_1,h11_1,h34_1,h35_1,h76_1,h77_1]
      ·clear hl_1 h0_1 h5_1 h8_1 h9_1 h11_1 h34_1 h35_1 h76_1 h77_1
       rintro i q4 e ⟨E4,c4⟩ ⟨hq4,f1,f2,f3,hl_1,h0_1,h5_1,h8_1,h9_1,h34_1,h35_1,h99_1,h100_1⟩ hlt4 hw4 s4 ho4;unfold F133_4_B at ho4;simp only at f1 f2 f3;by_cases hi:i=done
       ·rw[if_pos hi]at ho4
        have hE:=wA ho4; subst hE;simp only[simprocAttr, -Int.reduceNatCast',R1,b133_4,hl_1,h0_1,h5_1,h8_1,h9_1,h34_1,h35_1,h99_1,h100_1,hw4,eq_true hlt4,eq_true hi];refine ai rfl ⟨hq4,f1,f2,f3,?_⟩;simp only[simprocAttr, -Int.reduceNatCast',R1,hl_1,h0_1,h5_1,h8_1,h9_1,h34_1,h35_1,h99_1,h100_1,hw4]
       ·rw[if_neg hi]at ho4
        obtain⟨ri,gri,ho4⟩:=bS ho4;obtain⟨ria,rib⟩:=ql gri;obtain⟨oi,goi,ho4⟩:=bS ho4;obtain⟨oia,oib⟩:=ql goi;obtain⟨xi,gxi,ho4⟩:=bS ho4;obtain⟨xia,xib⟩:=ql gxi;have xic:=qV gxi;obtain⟨r',gr'',ho4⟩:=bS ho4;obtain⟨l',gl',ho4⟩:=bS ho4;have e4:=setI_eq gl';subst e4;have hE:=wA ho4; subst hE;obtain⟨ki,ui,vi1,vi2,vi3⟩:=f2.get rib;obtain⟨ko,uo,vo1,vo2,vo3⟩:=f2.get oib;have hko:ko≠ki:=fun q=> hi (by have:=f2.inj _ _ _ _ _ _ _ _ vo1 vi1 q; omega);have oi1:=qE vi1;have oo1:=qE vo1;have ox1:qf none (List.drop cc.toNat (ri.map Enc.enc))=some (V.int .i64 xi):=qE (by rw[List.getElem?_map,xib]; rfl);obtain⟨wc,wcl⟩:=d139 gr'' E4 c4 vi2 vo2 hko;have hi4:i < (l.length:Int):=hlt4;simp only[simprocAttr, -Int.reduceNatCast',R1,b133_4,hl_1,h0_1,h5_1,h8_1,h9_1,h34_1,h35_1,h99_1,h100_1,hw4,eq_true hlt4,eq_false hi,hd0,eq_true hdl,ria,f1,f3,oi1,oo1,vi2,xia,eq_true xic,ox1,zj,wc];refine ai rfl ⟨by rw[yN]; exact hq4,(qS (by omega)).trans f1,f2.write rib vi1 wcl,(qS (by omega)).trans f3,?_⟩;simp only[simprocAttr, -Int.reduceNatCast',R1,hl_1,h0_1,h5_1,h8_1,h9_1,h34_1,h35_1,h99_1,h100_1,hw4]
      ·clear hl_1 h0_1 h5_1 h8_1 h9_1 h11_1 h34_1 h35_1 h76_1 h77_1
       rintro i q4 e ⟨E4,c4⟩ ⟨hq4,f1,f2,f3,hl_1,h0_1,h5_1,h8_1,h9_1,h34_1,h35_1,h99_1,h100_1⟩ hge4 t4 ho4;unfold F133_4_D at ho4;have hE:=wA ho4; subst hE;simp only at f1 f2 f3;have wd1':Go.IntKind.wrap .i64 (done+1)=d1:=wd1;by_cases hb:d1=(q4.length:Int)
       ·have hb':d1=(l.length:Int):=by omega
        have wsh:=slice_hi (key:=0) (uid:=u) (n:=l.length) (d:=d1) (by omega) (by omega);simp only[simprocAttr, -Int.reduceNatCast',R1,b133_4,hl_1,h0_1,h5_1,h8_1,h9_1,h34_1,h35_1,h99_1,h100_1,eq_false hge4,wd1',eq_true hb',vZ,uK,wsh];intro ht; subst ht;rw[if_pos hb]at ho;have hE:=wA ho; subst hE;intro ht; subst ht;simp only[simprocAttr, -Int.reduceNatCast',R1,hl_1,h0_1,h5_1,h8_1,h9_1,h34_1,h35_1,h99_1,h100_1,vZ,uK,wsh];simp only at hF;rw[if_pos ⟨by omega,by omega⟩]at hF;have hE:=wA hF; subst hE;have hrl:(q4.take d1.toNat).length=d1.toNat:=by simp; omega
        refine ai (fun _=> trivial) ⟨_,?_,u,vs2,q4,rfl,f1,f2.mono fun k _ h=> h.1,by rw[hrl]⟩;simp only[simprocAttr, -Int.reduceNatCast',R1,qe,p133,Rs.ev,hl_1,hrl]
       ·have hb':¬d1=(l.length:Int):=by omega
        simp only[simprocAttr, -Int.reduceNatCast',R1,b133_4,hl_1,h0_1,h5_1,h8_1,h9_1,h34_1,h35_1,h99_1,h100_1,eq_false hge4,wd1',eq_false hb',hw];intro ht; subst ht;rw[if_neg hb]at ho;have hE:=wA ho; subst hE;refine ai rfl ⟨u,vs2,f1,f2.mono fun k _ h=> h.1,?_⟩;simp only[simprocAttr, -Int.reduceNatCast',R1,hl_1,h0_1,h5_1,h8_1,h9_1,h34_1,h35_1,h99_1,h100_1,hq4]
   ·clear hl_1 h0_1 h5_1 h15_1 h16_1 h17_1 g1 g2 k0 u0 v1 v2 v3 o1
    rintro cc ⟨l,done⟩ e ⟨E,c⟩ ⟨u,vs,g1,g2,hl_1,h0_1,h5_1,h8_1,h34_1,h35_1⟩ hge t1 ho;unfold F133_2_D at ho;have hE:=wA ho; subst hE;simp only at g1 g2 h5_1 h8_1;simp only[simprocAttr, -Int.reduceNatCast',R1,b133_2,hl_1,h0_1,h5_1,h8_1,h34_1,h35_1,eq_false hge,vZ,uK];intro ht; subst ht;simp only at hF;split at hF
    case isFalse=> cases hF
    rename_i hdn;have wsh:=slice_hi (key:=0) (uid:=u) (n:=l.length) (d:=done) hdn.1 (by omega);have hE:=wA hF; subst hE;have hrl:(l.take done.toNat).length=done.toNat:=by simp; omega
    simp only[simprocAttr, -Int.reduceNatCast',R1,hl_1,wsh];refine ai (fun _=> trivial) ⟨_,?_,u,vs,l,rfl,g1,g2,by rw[hrl]⟩;simp only[simprocAttr, -Int.reduceNatCast',R1,qe,p133,Rs.ev,hl_1,hrl]
theorem s133(p:Int)(rows:List (List Int)){r:List (List Int)}(hF:F133 p rows=some r):ans A 133 [V.int .i64 p,V.isl (rows.map Enc.enc)]=some (Enc.enc r):=by
 obtain⟨_,h',h1,u,vs,l,rfl,h2,h3,h4⟩:=d133 p rows hF;have hl:r.length≤l.length:=by have:=congrArg List.length h4; simp at this; omega
 have:=h3.fz h'.clk (key:=0) (uid:=u) (off:=0) (n:=r.length) h2 (by omega);rw[vW,←h4]at this;unfold ans;rw[h1];exact this
theorem t133(p:Int)(rows:List (List Int)){r:List (List Int)}(hF:F133 p rows=some r):tans A 133 [1] [V.int .i64 p,V.isl (rows.map Enc.enc)]=some (Enc.enc r):=by
 obtain⟨_,h',h1,u,vs,l,rfl,h2,h3,h4⟩:=d133 p rows hF;have hl:r.length≤l.length:=by have:=congrArg List.length h4; simp at this; omega
 obtain⟨h2',q⟩:=h3.tk h'.clk (key:=0) (uid:=u) (n:=r.length) h2 (by decide) hl;rw[←h4]at q;unfold tans;rw[h1];show(match take 16 [1] (V.sl 0 u 0 r.length 1) ⟨h'.ents,h'.clk⟩with|some (t,_)=> some t|none=> none)=_;rw[q];rfl
theorem mtk133(f:Nat):∀ (ws:List V) (q:List (List Int)) (h:Heap),ws.length=q.length→(∀ (i:Nat) v r,ws[i]? =some v→q[i]? =some r→∃k u,v= .sl k u 0 r.length 1∧h.ents[k]? =some (u,some (r.map Enc.enc)))→
  (∀ (i j k u n k' u' n':Nat),ws[i]? =some (.sl k u 0 n 1)→ws[j]? =some (.sl k' u' 0 n' 1)→k=k'→i=j)→∃h',mapS (take (f+2) [1]) ws h=some (q.map Enc.enc,h')
 | [],[],h,_,_,_=>⟨h,rfl⟩
 |v::ws,r::q,h,hl,hr,hi=> by
  obtain⟨k,u,rfl,g⟩:=hr 0 v r rfl rfl;have e:(List.map (Enc.enc:Int→V) r).take r.length=r.map Enc.enc:=wZ (by simp);have ht:take (f+2) [1] (.sl k u 0 r.length 1) h=some (Enc.enc r,h.kill k):=by
   simp only[take,get_of g,yK,vH,vW,List.tail_cons];rw[if_pos ⟨by simp,by omega,by simp[hdOk]⟩,e,take_ints f []];simp only[xn];rfl
  obtain⟨h',h2⟩:=mtk133 f ws q (h.kill k) (by simpa using hl) (fun i v' r' a b=> by
   obtain⟨k',u',e',g'⟩:=hr (i+1) v' r' (by simpa using a) (by simpa using b);refine⟨k',u',e',?_⟩;rw[kill_ne h fun q=>?_]
   ·exact g'
   ·subst e'; subst q
    have:=hi (i+1) 0 _ _ _ _ _ _ (by simpa using a) rfl rfl;omega) (fun i j k1 u1 n1 k2 u2 n2 a b c=> by
   have:=hi (i+1) (j+1) _ _ _ _ _ _ (by simpa using a) (by simpa using b) c;omega)
  exact⟨h',by simp only[mapS,ht,h2,vA]⟩
theorem mtt133{E:List (Nat×Option (List V))}{vs:List V}{l:List (List Int)}{B:Ks}(m:zZ E vs l B)(c:Nat){key uid n:Nat}(hk:E[key]? =some (uid,some vs))(hB:¬B key)(hn:n≤l.length):∃h',take 16 [1,1] (.sl key uid 0 n 1) ⟨E,c⟩=some (.isl ((l.take n).map Enc.enc),h'):=by
 have hl:=m.len;obtain⟨h',h2⟩:=mtk133 13 (vs.take n) (l.take n) ((⟨E,c⟩:Heap).kill key) (by simp[hl]) (fun i v r a b=> by
  rw[List.getElem?_take]at a b;split at a
  ·rename_i hi
   rw[if_pos hi]at b;obtain⟨k,u,e,g,hb⟩:=m.row i v r a b;exact⟨k,u,e,by rw[kill_ne _ fun q=> by subst q; exact hB hb]; exact g⟩
  ·cases a) (fun i j k u n1 k' u' n2 a b e=> by
  rw[List.getElem?_take]at a b;split at a
  ·split at b
   ·exact m.inj i j _ _ _ _ _ _ a b e
   ·cases b
  ·cases a)
 refine⟨h',?_⟩;simp only[take,get_of (h:=⟨E,c⟩) hk,yK,vH,vW,List.tail_cons];rw[if_pos ⟨by omega,by omega,by simp[hdOk]⟩,h2];simp only[xn]
theorem x133(p:Int)(rows:List (List Int)){r:List (List Int)}(hF:F133 p rows=some r):tans A 133 [1,1] [V.int .i64 p,V.isl (rows.map Enc.enc)]=some (Enc.enc r):=by
 obtain⟨_,h',h1,u,vs,l,rfl,h2,h3,h4⟩:=d133 p rows hF;have hl:r.length≤l.length:=by have:=congrArg List.length h4; simp at this; omega
 obtain⟨h2',q⟩:=mtt133 h3 h'.clk (key:=0) (uid:=u) (n:=r.length) h2 (by decide) hl;rw[←h4]at q;unfold tans;rw[h1];show(match take 16 [1,1] (V.sl 0 u 0 r.length 1) ⟨h'.ents,h'.clk⟩with|some (t,_)=> some t|none=> none)=_;rw[q];rfl
def F102(a0:qh)(a1:Int):Option Int:=
 (F86 a0).bind fun x1=>
 (F56 a1 0 x1).bind fun x3=>
 if x3=true then
  (getI a0.Dims a1).bind fun x5=>
  some x5
 else
  some 0
theorem s102(a0:qh)(a1:Int){r:Int}(hF:F102 a0 a1=some r):ans A 102 [(eC a0),V.int .i64 a1]=some (Enc.enc r):=by
 refine qu (f:=p102) rfl rfl rfl fun e hl he=>?_;have h0_0:e.at 0=(eC a0):=he 0 _ rfl;have h1_0:e.at 1=V.int .i64 a1:=he 1 _ rfl;have hl_0:e.length=15:=hl;clear he hl;have h_0:=ai hl_0 (ai h0_0 h1_0);show W A b102 e ⟨[],0⟩ _;unfold F102 at hF;obtain⟨x1,gx1,hF⟩:=bS hF;have w2:=s86 a0 gx1;obtain⟨x3,gx3,hF⟩:=bS hF;have w4:=s56 a1 0 x1 gx3;cases x3 with
 |true=>
  rw[if_pos rfl]at hF;obtain⟨x5,gx5,hF⟩:=bS hF;obtain⟨w6a,w6b⟩:=ql gx5;cases hF;simp only[simprocAttr,R0,b102, *];exact qd (by simp only[simprocAttr,R0,qe,p102,Rs.ev,qa, *])
 |false=>
  rw[if_neg wC]at hF;cases hF;simp only[simprocAttr,R0,b102, *];exact qd (by simp only[simprocAttr,R0,qe,p102,Rs.ev,qa, *])
def F125_1_B(a0:Int)(a1:List (List Int))(x2:List Int)(v25_1:Int)(o0_1:(List (List Int))):Option (((List (List Int)))⊕((List (List Int)))):=
 (getI a1 v25_1).bind fun x8=>
(F96 x8).bind fun x10=>
(appZ 8 x10 (a1.length:Int) 0).bind fun l13=>
(chk ((x2.length:Int)+v25_1)).bind fun x14=>
(getI l13 x14).bind fun x15=>
(setI l13 x14 1).bind fun l17=>
(app 24 o0_1 [l17]).bind fun l20=>
some (.inl l20)
def F125_1_D(a0:Int)(a1:List (List Int))(x2:List Int)(v25_1:Int)(o0_1:(List (List Int))):Option ((List (List Int))):=
 some o0_1
def F125_2_B(a0:Int)(x2:List Int)(x22:List (List Int))(v49_2:Int)(o1_2:(List (List Int))):Option (((List (List Int)))⊕((List (List Int)))):=
 (getI x22 v49_2).bind fun x28=>
(slI x28 0 (x2.length:Int)).bind fun l30=>
(F92 l30).bind fun x32=>
if x32=true then
 (slI x28 (x2.length:Int) (x28.length:Int)).bind fun l34=>
 (app 24 o1_2 [l34]).bind fun l37=>
 some (.inl l37)
else
 some (.inl o1_2)
def F125_2_D(a0:Int)(x2:List Int)(x22:List (List Int))(v49_2:Int)(o1_2:(List (List Int))):Option ((List (List Int))):=
 some o1_2
def F125(a0:Int)(a1:List (List Int)):Option (List (List Int)):=
 if(a1.length:Int)=0 then
  some ([]:List (List Int))
 else
  (getI a1 0).bind fun x2=>
  (forR 0 (a1.length:Int) (F125_1_B a0 a1 x2) (F125_1_D a0 a1 x2) ([]:(List (List Int)))).bind fun zo0_1=>
  (F133 a0 zo0_1).bind fun x22=>
  (forR 0 (x22.length:Int) (F125_2_B a0 x2 x22) (F125_2_D a0 x2 x22) ([]:(List (List Int)))).bind fun zo1_2=>
  (F133 a0 zo1_2).bind fun x39=>
  some x39
def I125_1(a0:Int)(a1:List (List Int))(x2:List Int)(v25_1:Int)(o0_1:(List (List Int)))(e:Env)(h:Heap):Prop:=
 ∃u5 k6:Nat,h=⟨[(u5,some (o0_1.map Enc.enc))],k6⟩∧e.length=67∧e.at 0=V.int .i64 a0∧e.at 5=V.int .i64 (a1.length:Int)∧e.at 6=V.int .i64 (x2.length:Int)∧e.at 7=V.sl 0 u5 0 o0_1.length 1∧e.at 23=V.isl (a1.map Enc.enc)∧e.at 24=V.int .i64 (a1.length:Int)∧e.at 25=V.int .i64 v25_1
def P125_1(a0:Int)(a1:List (List Int))(x2:List Int)(zo0_1:(List (List Int)))(x:Ex)(e:Env)(h:Heap):Prop:=
 x= .normal∧∃u5 k6:Nat,h=⟨[(u5,some (zo0_1.map Enc.enc))],k6⟩∧e.length=67∧e.at 0=V.int .i64 a0∧e.at 6=V.int .i64 (x2.length:Int)∧e.at 7=V.sl 0 u5 0 zo0_1.length 1
theorem l125_1(a0:Int)(a1:List (List Int))(x2:List Int){lo:Int}{s:(List (List Int))}{t:(List (List Int))}(hF:forR lo (a1.length:Int) (F125_1_B a0 a1 x2) (F125_1_D a0 a1 x2) s=some t){e:Env}{h:Heap}(hI:I125_1 a0 a1 x2 lo s e h):W A c125_1 e h (P125_1 a0 a1 x2 t):=by
 show W A (.block 0 (.loop false b125_1)) e h _;rw[qi];refine qr hF 1 (by obtain⟨_,_,rfl,_⟩:=hI; rfl) (I125_1 a0 a1 x2) hI ?_ ?_
 ·rintro v25_1 o0_1 e h ⟨u5,k6,rfl,h_4⟩ hlt hw o ho
  unfold F125_1_B at ho;obtain⟨x8,gx8,ho⟩:=bS ho;obtain⟨w9a,w9b⟩:=ql gx8;obtain⟨x10,gx10,ho⟩:=bS ho;have w11:tans A 96 [1] [V.isl (x8.map Enc.enc)]=some (V.isl (x10.map Enc.enc)):=t96 x8 gx10;have w11t:=zt (α:=Int) x10;obtain⟨l13,gl13,ho⟩:=bS ho;obtain⟨w12a,w12b,w12c,w12d,w12e,w12f⟩:=appZ_w gl13;replace w12f:List.map Enc.enc (List.replicate (Int.toNat (a1.length:Int)) (0:Int))=(List.replicate (Int.toNat (a1.length:Int)) [V.int .i64 0]).flatten:=w12f;have w12:=fun a b c d e=> qC (α:=Int) (n:=x10.length) (m:=(Int.toNat (a1.length:Int))) (ds:=(List.replicate (Int.toNat (a1.length:Int)) [V.int .i64 0]).flatten) w12d (by first|rfl|simp) w12e w12f a b c d e;have w12l:=qM w12d;obtain⟨x14,gx14,ho⟩:=bS ho;have wx14:=qx gx14;obtain⟨x15,gx15,ho⟩:=bS ho;obtain⟨w16a,w16b⟩:=ql gx15;have w16c:=qV gx15;have w16d:List.drop (Int.toNat x14) (l13.map Enc.enc)=(V.int .i64 x15)::List.drop ((Int.toNat x14)+1) (l13.map Enc.enc):=jO w16b;obtain⟨l17,gl17,ho⟩:=bS ho;obtain⟨w18a,w18b,w18c,w18d,w18e⟩:=xr gl17;replace w18e:List.take (Int.toNat x14) (l13.map Enc.enc)++[V.int .i64 1]++List.drop (Int.toNat x14+1) (l13.map Enc.enc)=List.map Enc.enc l17:=w18e;obtain⟨l20,gl20,ho⟩:=bS ho;have w19:=fun a b c d e=> qC (α:=List Int) (n:=o0_1.length) (m:=1) (ds:=[V.isl (l17.map Enc.enc)]) gl20 (by first|rfl|simp only[w18d]) (by first|rfl|simp only[w18d]) rfl a b c d e;have w19l:=qM gl20;cases ho;simp only[simprocAttr, -Int.reduceNatCast',R0,b125_1,h_4,eq_true hlt,hw,w9a,w9b,w11,w11t,w12a,w12b,w12c,w12,wx14,w16a,w16b,w16c,w16d,w18a,w18b,w18c,w18e,qO (α:=Int) l17,take_len (α:=Int) (l:=l17) (n:=l13.length) (by first|rfl|simp only[w18d]),le_of_len (α:=Int) (l:=l17) (n:=l13.length) (by first|rfl|simp only[w18d]),w19];refine ai rfl (ei _ (ei _ (ai rfl ?_)));simp only[simprocAttr, -Int.reduceNatCast',R0,h_4,eq_true hlt,hw,w9a,w9b,w11,w11t,w12a,w12b,w12c,w12,wx14,w16a,w16b,w16c,w16d,w18a,w18b,w18c,w18e,qO (α:=Int) l17,take_len (α:=Int) (l:=l17) (n:=l13.length) (by first|rfl|simp only[w18d]),le_of_len (α:=Int) (l:=l17) (n:=l13.length) (by first|rfl|simp only[w18d]),w19,w18d]
 ·rintro v25_1 o0_1 e h ⟨u5,k6,rfl,h_4⟩ hge t1 ho
  unfold F125_1_D at ho;cases ho;simp only[simprocAttr, -Int.reduceNatCast',R0,b125_1,h_4,eq_false hge];intro ht; subst ht;refine ai rfl (ei _ (ei _ (ai rfl ?_)));simp only[simprocAttr, -Int.reduceNatCast',R0,h_4,eq_false hge]
def I125_2(a0:Int)(x2:List Int)(x22:List (List Int))(v49_2:Int)(o1_2:(List (List Int)))(e:Env)(h:Heap):Prop:=
 ∃u25 k26:Nat,h=⟨[(0,none),(u25,some (o1_2.map Enc.enc))],k26⟩∧e.length=67∧e.at 0=V.int .i64 a0∧e.at 6=V.int .i64 (x2.length:Int)∧e.at 11=V.sl 1 u25 0 o1_2.length 1∧e.at 47=V.isl (x22.map Enc.enc)∧e.at 48=V.int .i64 (x22.length:Int)∧e.at 49=V.int .i64 v49_2
def P125_2(a0:Int)(x2:List Int)(x22:List (List Int))(zo1_2:(List (List Int)))(x:Ex)(e:Env)(h:Heap):Prop:=
 x= .normal∧∃u25 k26:Nat,h=⟨[(0,none),(u25,some (zo1_2.map Enc.enc))],k26⟩∧e.length=67∧e.at 0=V.int .i64 a0∧e.at 11=V.sl 1 u25 0 zo1_2.length 1
theorem l125_2(a0:Int)(x2:List Int)(x22:List (List Int)){lo:Int}{s:(List (List Int))}{t:(List (List Int))}(hF:forR lo (x22.length:Int) (F125_2_B a0 x2 x22) (F125_2_D a0 x2 x22) s=some t){e:Env}{h:Heap}(hI:I125_2 a0 x2 x22 lo s e h):W A c125_2 e h (P125_2 a0 x2 x22 t):=by
 show W A (.block 2 (.loop false b125_2)) e h _;rw[qi];refine qr hF 2 (by obtain⟨_,_,rfl,_⟩:=hI; rfl) (I125_2 a0 x2 x22) hI ?_ ?_
 ·rintro v49_2 o1_2 e h ⟨u25,k26,rfl,h_24⟩ hlt hw o ho
  unfold F125_2_B at ho;obtain⟨x28,gx28,ho⟩:=bS ho;obtain⟨w29a,w29b⟩:=ql gx28;obtain⟨l30,gl30,ho⟩:=bS ho;have w31:sliceV 1 (V.isl (x28.map Enc.enc)) none (some (V.int .i64 (x2.length:Int)))=some (V.isl (l30.map Enc.enc)):=sliceV_w (α:=Int) One.one gl30 (.inl ⟨rfl,rfl⟩) (.inr rfl);obtain⟨x32,gx32,ho⟩:=bS ho;have w33:=s92 l30 gx32;cases x32 with
  |true=>
   rw[if_pos rfl]at ho;obtain⟨l34,gl34,ho⟩:=bS ho;have w35:sliceV 1 (V.isl (x28.map Enc.enc)) (some (V.int .i64 (x2.length:Int))) none=some (V.isl (l34.map Enc.enc)):=sliceV_w (α:=Int) One.one gl34 (.inr rfl) (.inl ⟨rfl,rfl⟩);obtain⟨l37,gl37,ho⟩:=bS ho;have w36:=fun a b c d e=> qC (α:=List Int) (n:=o1_2.length) (m:=1) (ds:=[V.isl (l34.map Enc.enc)]) gl37 (by first|rfl|simp) (by first|rfl|simp) rfl a b c d e;have w36l:=qM gl37;cases ho;simp only[simprocAttr,R0,b125_2, *];refine ai rfl (ei _ (ei _ (ai rfl ?_)));simp only[simprocAttr,R0, *]
  |false=>
   rw[if_neg wC]at ho;cases ho;simp only[simprocAttr,R0,b125_2, *];refine ai rfl (ei _ (ei _ (ai rfl ?_)));simp only[simprocAttr,R0, *]
 ·rintro v49_2 o1_2 e h ⟨u25,k26,rfl,h_24⟩ hge t1 ho
  unfold F125_2_D at ho;cases ho;simp only[simprocAttr,R0,b125_2, *];intro ht; subst ht;refine ai rfl (ei _ (ei _ (ai rfl ?_)));simp only[simprocAttr,R0, *]
theorem s125(a0:Int)(a1:List (List Int)){r:List (List Int)}(hF:F125 a0 a1=some r):ans A 125 [V.int .i64 a0,V.isl (a1.map Enc.enc)]=some (Enc.enc r):=by
 refine qu (f:=p125) rfl rfl rfl fun e hl he=>?_;have h0_0:e.at 0=V.int .i64 a0:=he 0 _ rfl;have h1_0:e.at 1=V.isl (a1.map Enc.enc):=he 1 _ rfl;have hl_0:e.length=67:=hl;clear he hl;have h_0:=ai hl_0 (ai h0_0 h1_0);show W A b125 e ⟨[],0⟩ _;unfold F125 at hF;by_cases c1:(a1.length:Int)=0
 ·rw[if_pos c1]at hF
  cases hF;simp only[simprocAttr,R0,b125, *];exact qd (by simp only[simprocAttr,R0,qe,p125,Rs.ev,qa, *])
 ·rw[if_neg c1]at hF
  obtain⟨x2,gx2,hF⟩:=bS hF;obtain⟨w3a,w3b⟩:=ql gx2;replace w3b:a1[0]? =some x2:=w3b;obtain⟨zo0_1,gt21,hF⟩:=bS hF;simp only[simprocAttr,R0,b125, *];refine W.mono (l125_1 a0 a1 x2 gt21 (ei _ (ei _ (ai rfl ?_)))) ?_
  ·simp only[simprocAttr,R0, *]
  rintro _ e _ ⟨rfl,u5,k6,rfl,h_7⟩;obtain⟨x22,gx22,hF⟩:=bS hF;have w23:=s133 a0 zo0_1 gx22;obtain⟨zo1_2,gt38,hF⟩:=bS hF;simp only[simprocAttr,R0,qO (α:=List Int) zo0_1, *];refine W.mono (l125_2 a0 x2 x22 gt38 (ei _ (ei _ (ai rfl ?_)))) ?_
  ·simp only[simprocAttr,R0,qO (α:=List Int) zo0_1, *]
  rintro _ e _ ⟨rfl,u25,k26,rfl,h_27⟩;obtain⟨x39,gx39,hF⟩:=bS hF;have w40:=s133 a0 zo1_2 gx39;cases hF;simp only[simprocAttr,R0,qO (α:=List Int) zo1_2, *];exact qd (by simp only[simprocAttr,R0,qe,p125,Rs.ev,qa,qO (α:=List Int) zo1_2, *])
def F202_1_B(a2:Int)(x5:List Int)(v24_1:Int)(o1_1:(List Int)):Option (((List Int))⊕((List Int))):=
 (getI x5 v24_1).bind fun x11=>
if x11≤a2 then
 (app 8 o1_1 [v24_1]).bind fun l15=>
 some (.inl l15)
else
 some (.inl o1_1)
def F202_1_D(a2:Int)(x5:List Int)(v24_1:Int)(o1_1:(List Int)):Option ((List Int)):=
 some o1_1
def F202(a0:qc)(a1:Int)(a2:Int):Option (List Int):=
 (F86 a0.Complex).bind fun x1=>
 (F56 a1 0 x1).bind fun x3=>
 if x3=true then
  (getI a0.Levels a1).bind fun x5=>
  (forR 0 (x5.length:Int) (F202_1_B a2 x5) (F202_1_D a2 x5) ([]:(List Int))).bind fun zo1_1=>
  some zo1_1
 else
  some []
def I202_1(a2:Int)(x5:List Int)(v24_1:Int)(o1_1:(List Int))(e:Env)(h:Heap):Prop:=
 ∃u8 k9:Nat,h=⟨[(0,none),(u8,some (o1_1.map Enc.enc))],k9⟩∧e.length=38∧e.at 2=V.int .i64 a2∧e.at 7=V.sl 1 u8 0 o1_1.length 1∧e.at 22=V.isl (x5.map Enc.enc)∧e.at 23=V.int .i64 (x5.length:Int)∧e.at 24=V.int .i64 v24_1
def P202_1(a2:Int)(x5:List Int)(zo1_1:(List Int))(x:Ex)(e:Env)(h:Heap):Prop:=
 x= .normal∧∃u8 k9:Nat,h=⟨[(0,none),(u8,some (zo1_1.map Enc.enc))],k9⟩∧e.length=38∧e.at 7=V.sl 1 u8 0 zo1_1.length 1
theorem l202_1(a2:Int)(x5:List Int){lo:Int}{s:(List Int)}{t:(List Int)}(hF:forR lo (x5.length:Int) (F202_1_B a2 x5) (F202_1_D a2 x5) s=some t){e:Env}{h:Heap}(hI:I202_1 a2 x5 lo s e h):W A c202_1 e h (P202_1 a2 x5 t):=by
 show W A (.block 0 (.loop false b202_1)) e h _;rw[qi];refine qr hF 2 (by obtain⟨_,_,rfl,_⟩:=hI; rfl) (I202_1 a2 x5) hI ?_ ?_
 ·rintro v24_1 o1_1 e h ⟨u8,k9,rfl,h_7⟩ hlt hw o ho
  unfold F202_1_B at ho;obtain⟨x11,gx11,ho⟩:=bS ho;obtain⟨w12a,w12b⟩:=ql gx11;by_cases c13:x11≤a2
  ·rw[if_pos c13]at ho
   obtain⟨l15,gl15,ho⟩:=bS ho;have w14:=fun a b c d e=> qC (α:=Int) (n:=o1_1.length) (m:=1) (ds:=[V.int .i64 v24_1]) gl15 (by first|rfl|simp) (by first|rfl|simp) rfl a b c d e;have w14l:=qM gl15;cases ho;simp only[simprocAttr,R0,b202_1, *];refine ai rfl (ei _ (ei _ (ai rfl ?_)));simp only[simprocAttr,R0, *]
  ·rw[if_neg c13]at ho
   cases ho;simp only[simprocAttr,R0,b202_1, *];refine ai rfl (ei _ (ei _ (ai rfl ?_)));simp only[simprocAttr,R0, *]
 ·rintro v24_1 o1_1 e h ⟨u8,k9,rfl,h_7⟩ hge t1 ho
  unfold F202_1_D at ho;cases ho;simp only[simprocAttr,R0,b202_1, *];intro ht; subst ht;refine ai rfl (ei _ (ei _ (ai rfl ?_)));simp only[simprocAttr,R0, *]
theorem s202(a0:qc)(a1:Int)(a2:Int){r:List Int}(hF:F202 a0 a1 a2=some r):ans A 202 [(eF a0),V.int .i64 a1,V.int .i64 a2]=some (Enc.enc r):=by
 refine qu (f:=p202) rfl rfl rfl fun e hl he=>?_;have h0_0:e.at 0=(eF a0):=he 0 _ rfl;have h1_0:e.at 1=V.int .i64 a1:=he 1 _ rfl;have h2_0:e.at 2=V.int .i64 a2:=he 2 _ rfl;have hl_0:e.length=38:=hl;clear he hl;show W A b202 e ⟨[],0⟩ _;unfold F202 at hF;obtain⟨x1,gx1,hF⟩:=bS hF;have w2:=s86 a0.Complex gx1;obtain⟨x3,gx3,hF⟩:=bS hF;have w4:=s56 a1 0 x1 gx3;cases x3 with
 |true=>
  rw[if_pos rfl]at hF;obtain⟨x5,gx5,hF⟩:=bS hF;obtain⟨w6a,w6b⟩:=ql gx5;obtain⟨zo1_1,gt16,hF⟩:=bS hF;simp only[simprocAttr, -Int.reduceNatCast',R0,b202, *];refine W.mono (l202_1 a2 x5 gt16 (ei _ (ei _ (ai rfl ?_)))) ?_
  ·simp only[simprocAttr, -Int.reduceNatCast',R0, *]
  rintro _ e _ ⟨rfl,u8,k9,rfl,hl_10,h7_10⟩;have hE:=wA hF; subst hE;simp only[simprocAttr, -Int.reduceNatCast',R0, *];exact qd (by simp only[simprocAttr, -Int.reduceNatCast',R0,qe,p202,Rs.ev,qa,frzs (α:=Int) zo1_1,qO (α:=Int) zo1_1, *])
 |false=>
  rw[if_neg wC]at hF;have hE:=wA hF; subst hE;simp only[simprocAttr, -Int.reduceNatCast',R0,b202, *];exact qd (by simp only[simprocAttr, -Int.reduceNatCast',R0,qe,p202,Rs.ev,qa, *])
def F211_1_B(a0:List Int)(a1:Int)(v8_1:Int)(s:Unit):Option ((Unit)⊕((Unit)⊕Int)):=
 (getI a0 v8_1).bind fun x4=>
if a1=x4 then
 some (.inr (.inr v8_1))
else
 some (.inl ())
def F211_1_D(a0:List Int)(a1:Int)(v8_1:Int)(s:Unit):Option ((Unit)⊕Int):=
 some (.inl ())
def F211(a0:List Int)(a1:Int):Option Int:=
 (forR 0 (a0.length:Int) (F211_1_B a0 a1) (F211_1_D a0 a1) ()).bind fun t7=> match t7 with
  | .inl _=>
   some (-1)
  | .inr r8=> some r8
def I211_1(a0:List Int)(a1:Int)(v8_1:Int)(s:Unit)(e:Env)(h:Heap):Prop:=
 ∃k2:Nat,h=⟨[],k2⟩∧e.length=19∧e.at 0=V.isl (a0.map Enc.enc)∧e.at 1=V.int .i64 a1∧e.at 7=V.int .i64 (a0.length:Int)∧e.at 8=V.int .i64 v8_1
def P211_1(a0:List Int)(a1:Int)(t:(Unit)⊕Int)(x:Ex)(e:Env)(h:Heap):Prop:=
 match t with
 | .inl _=> x= .normal∧∃k2:Nat,h=⟨[],k2⟩∧e.length=19
 | .inr r=> x= .ret∧Fin p211 (Enc.enc r) .ret e h
theorem l211_1(a0:List Int)(a1:Int){lo:Int}{s:Unit}{t:(Unit)⊕Int}(hF:forR lo (a0.length:Int) (F211_1_B a0 a1) (F211_1_D a0 a1) s=some t){e:Env}{h:Heap}(hI:I211_1 a0 a1 lo s e h):W A c211_1 e h (P211_1 a0 a1 t):=by
 show W A (.block 0 (.loop false b211_1)) e h _;rw[qi];refine qr hF 0 (by obtain⟨_,rfl,_⟩:=hI; rfl) (I211_1 a0 a1) hI ?_ ?_
 ·rintro v8_1 _ e h ⟨k2,rfl,h_1⟩ hlt hw o ho
  unfold F211_1_B at ho;obtain⟨x4,gx4,ho⟩:=bS ho;obtain⟨w5a,w5b⟩:=ql gx4;by_cases c6:a1=x4
  ·rw[if_pos c6]at ho
   cases ho;simp only[simprocAttr,R0,b211_1, *];intro ht; subst ht;simp only[simprocAttr,RR,RB];exact ai rfl (qd (by simp only[simprocAttr,R0,qe,p211,Rs.ev,qa, *]))
  ·rw[if_neg c6]at ho
   cases ho;simp only[simprocAttr,R0,b211_1, *];refine ai rfl (ei _ (ai rfl ?_));simp only[simprocAttr,R0, *]
 ·rintro v8_1 _ e h ⟨k2,rfl,h_1⟩ hge t1 ho
  unfold F211_1_D at ho;cases ho;simp only[simprocAttr,R0,b211_1, *];intro ht; subst ht;refine ai rfl (ei _ (ai rfl ?_));simp only[simprocAttr,R0, *]
theorem s211(a0:List Int)(a1:Int){r:Int}(hF:F211 a0 a1=some r):ans A 211 [V.isl (a0.map Enc.enc),V.int .i64 a1]=some (Enc.enc r):=by
 refine qu (f:=p211) rfl rfl rfl fun e hl he=>?_;have h0_0:e.at 0=V.isl (a0.map Enc.enc):=he 0 _ rfl;have h1_0:e.at 1=V.int .i64 a1:=he 1 _ rfl;have hl_0:e.length=19:=hl;clear he hl;have h_0:=ai hl_0 (ai h0_0 h1_0);show W A b211 e ⟨[],0⟩ _;unfold F211 at hF;obtain⟨t7,gt7,hF⟩:=bS hF;rcases t7 with _|r8
 ·dsimp only at hF
  simp only[simprocAttr,R0,b211, *];refine W.mono (l211_1 a0 a1 gt7 (ei _ (ai rfl ?_))) ?_
  ·simp only[simprocAttr,R0, *]
  rintro _ e _ ⟨rfl,k2,rfl,hl_3⟩;cases hF;simp only[simprocAttr,R0, *];exact qd (by simp only[simprocAttr,R0,qe,p211,Rs.ev,qa, *])
 ·dsimp only at hF
  cases hF;simp only[simprocAttr,R0,b211, *];refine W.mono (l211_1 a0 a1 gt7 (ei _ (ai rfl ?_))) ?_
  ·simp only[simprocAttr,R0, *]
  rintro _ e h ⟨rfl,hq⟩;simp only[simprocAttr,RR,RB];exact hq
def F203(a0:List Int)(a1:Int):Option Bool:=
 (F211 a0 a1).bind fun x1=>
 some (decide (0≤x1))
theorem s203(a0:List Int)(a1:Int){r:Bool}(hF:F203 a0 a1=some r):ans A 203 [V.isl (a0.map Enc.enc),V.int .i64 a1]=some (Enc.enc r):=by
 refine qu (f:=p203) rfl rfl rfl fun e hl he=>?_;have h0_0:e.at 0=V.isl (a0.map Enc.enc):=he 0 _ rfl;have h1_0:e.at 1=V.int .i64 a1:=he 1 _ rfl;have hl_0:e.length=9:=hl;clear he hl;show W A b203 e ⟨[],0⟩ _;unfold F203 at hF;obtain⟨x1,gx1,hF⟩:=bS hF;have w2:=s211 a0 a1 gx1;cases hF;simp only[simprocAttr,R0,b203, *];exact qd (by simp only[simprocAttr,R0,qe,p203,Rs.ev,qa, *])
def F184_1_B(a0:qc)(a1:Int)(a2:Int)(a3:Int)(x1:List Int)(x4:Int)(v37_1:Int)(o3_1:(List Int)):Option (((List Int))⊕((List Int))):=
 (chk (a2 - 1)).bind fun x10=>
(chk (a3 - a1)).bind fun x11=>
(F202 a0 x10 x11).bind fun x12=>
(F203 x12 v37_1).bind fun x14=>
if x14=true then
 some (.inl o3_1)
else
 (app 8 o3_1 [v37_1]).bind fun l17=>
 some (.inl l17)
def F184_1_D(a0:qc)(a1:Int)(a2:Int)(a3:Int)(x1:List Int)(x4:Int)(v37_1:Int)(o3_1:(List Int)):Option ((List Int)):=
 some o3_1
def F184_3_B(a0:qc)(a2:Int)(x1:List Int)(zo3_1:List Int)(o2_2:List (List Int))(v57_2:Int)(x23:Int)(v64_3:Int)(o4_3:(List Int)):Option (((List Int))⊕((List Int))):=
 (getI zo3_1 v64_3).bind fun x29=>
(chk (a2 - 1)).bind fun x31=>
(getI a0.Complex.Maps x31).bind fun x32=>
(getI x32 x23).bind fun x34=>
(getI x34 x29).bind fun x36=>
(app 8 o4_3 [x36]).bind fun l39=>
some (.inl l39)
def F184_3_D(a0:qc)(a2:Int)(x1:List Int)(zo3_1:List Int)(o2_2:List (List Int))(v57_2:Int)(x23:Int)(v64_3:Int)(o4_3:(List Int)):Option ((List Int)):=
 some o4_3
def F184_2_B(a0:qc)(a2:Int)(x1:List Int)(zo3_1:List Int)(v57_2:Int)(o2_2:(List (List Int))):Option (((List (List Int)))⊕((List (List Int)))):=
 (getI x1 v57_2).bind fun x23=>
(forR 0 ((zo3_1.length:Nat):Int) (F184_3_B a0 a2 x1 zo3_1 o2_2 v57_2 x23) (F184_3_D a0 a2 x1 zo3_1 o2_2 v57_2 x23) ([]:(List Int))).bind fun zo4_3=>
(app 24 o2_2 [zo4_3]).bind fun l42=>
some (.inl l42)
def F184_2_D(a0:qc)(a2:Int)(x1:List Int)(zo3_1:List Int)(v57_2:Int)(o2_2:(List (List Int))):Option ((List (List Int))):=
 some o2_2
def F184_5_B(a0:qc)(a2:Int)(x1:List Int)(zo3_1:List Int)(x44:List (List Int))(o4_4:List (List Int))(v95_4:Int)(x50:List Int)(v105_5:Int)(o5_5:(List Int)):Option (((List Int))⊕((List Int))):=
 (getI x1 v105_5).bind fun x60=>
(getI x50 v105_5).bind fun x62=>
(getI o5_5 x60).bind fun x64=>
(setI o5_5 x60 x62).bind fun l66=>
some (.inl l66)
def F184_5_D(a0:qc)(a2:Int)(x1:List Int)(zo3_1:List Int)(x44:List (List Int))(o4_4:List (List Int))(v95_4:Int)(x50:List Int)(v105_5:Int)(o5_5:(List Int)):Option ((List Int)):=
 some o5_5
def F184_4_B(a0:qc)(a2:Int)(x1:List Int)(zo3_1:List Int)(x44:List (List Int))(v95_4:Int)(o4_4:(List (List Int))):Option (((List (List Int)))⊕((List (List Int)))):=
 (getI x44 v95_4).bind fun x50=>
(F102 a0.Complex a2).bind fun x52=>
(mkL 8 x52 0).bind fun l54=>
(forR 0 (x1.length:Int) (F184_5_B a0 a2 x1 zo3_1 x44 o4_4 v95_4 x50) (F184_5_D a0 a2 x1 zo3_1 x44 o4_4 v95_4 x50) l54).bind fun zo5_5=>
(app 24 o4_4 [zo5_5]).bind fun l70=>
some (.inl l70)
def F184_4_D(a0:qc)(a2:Int)(x1:List Int)(zo3_1:List Int)(x44:List (List Int))(v95_4:Int)(o4_4:(List (List Int))):Option ((List (List Int))):=
 some o4_4
def F184(a0:qc)(a1:Int)(a2:Int)(a3:Int):Option (List (List Int)):=
 (F202 a0 a2 a3).bind fun x1=>
 (chk (a2 - 1)).bind fun x3=>
 (F102 a0.Complex x3).bind fun x4=>
 (forR 0 x4 (F184_1_B a0 a1 a2 a3 x1 x4) (F184_1_D a0 a1 a2 a3 x1 x4) ([]:(List Int))).bind fun zo3_1=>
 (forR 0 (x1.length:Int) (F184_2_B a0 a2 x1 zo3_1) (F184_2_D a0 a2 x1 zo3_1) ([]:(List (List Int)))).bind fun zo2_2=>
 (F125 a0.Complex.Prime zo2_2).bind fun x44=>
 (forR 0 (x44.length:Int) (F184_4_B a0 a2 x1 zo3_1 x44) (F184_4_D a0 a2 x1 zo3_1 x44) ([]:(List (List Int)))).bind fun zo4_4=>
 (F133 a0.Complex.Prime zo4_4).bind fun x72=>
 some x72
def I184_1(a0:qc)(a1:Int)(a2:Int)(a3:Int)(x1:List Int)(x4:Int)(v37_1:Int)(o3_1:(List Int))(e:Env)(h:Heap):Prop:=
 ∃u7 k8:Nat,h=⟨[(0,none),(1,some [V.int .i64 a0.Complex.Prime,V.isl (a0.Complex.Dims.map Enc.enc),V.isl (a0.Complex.Maps.map Enc.enc)]),(2,some []),(u7,some (o3_1.map Enc.enc))],k8⟩∧e.length=127∧e.at 1=V.int .i64 a1∧e.at 2=V.int .i64 a2∧e.at 3=V.int .i64 a3∧e.at 4=V.iptr [V.int .i64 a0.Complex.Prime,V.isl (a0.Complex.Dims.map Enc.enc),V.isl (a0.Complex.Maps.map Enc.enc),V.isl (a0.Levels.map Enc.enc)]∧e.at 9=V.ptr 1 1 0∧e.at 10=V.isl (x1.map Enc.enc)∧e.at 11=V.sl 2 2 0 0 1∧e.at 12=V.sl 3 u7 0 o3_1.length 1∧e.at 36=V.int .i64 x4∧e.at 37=V.int .i64 v37_1
def P184_1(a0:qc)(a1:Int)(a2:Int)(a3:Int)(x1:List Int)(x4:Int)(zo3_1:(List Int))(x:Ex)(e:Env)(h:Heap):Prop:=
 x= .normal∧∃u7 k8:Nat,h=⟨[(0,none),(1,some [V.int .i64 a0.Complex.Prime,V.isl (a0.Complex.Dims.map Enc.enc),V.isl (a0.Complex.Maps.map Enc.enc)]),(2,some []),(u7,some (zo3_1.map Enc.enc))],k8⟩∧e.length=127∧e.at 2=V.int .i64 a2∧e.at 9=V.ptr 1 1 0∧e.at 10=V.isl (x1.map Enc.enc)∧e.at 11=V.sl 2 2 0 0 1∧e.at 12=V.sl 3 u7 0 zo3_1.length 1
theorem l184_1(a0:qc)(a1:Int)(a2:Int)(a3:Int)(x1:List Int)(x4:Int){lo:Int}{s:(List Int)}{t:(List Int)}(hF:forR lo x4 (F184_1_B a0 a1 a2 a3 x1 x4) (F184_1_D a0 a1 a2 a3 x1 x4) s=some t){e:Env}{h:Heap}(hI:I184_1 a0 a1 a2 a3 x1 x4 lo s e h):W A c184_1 e h (P184_1 a0 a1 a2 a3 x1 x4 t):=by
 show W A (.block 0 (.loop false b184_1)) e h _;rw[qi];refine qr hF 4 (by obtain⟨_,_,rfl,_⟩:=hI; rfl) (I184_1 a0 a1 a2 a3 x1 x4) hI ?_ ?_
 ·rintro v37_1 o3_1 e h ⟨u7,k8,rfl,h_6⟩ hlt hw o ho
  unfold F184_1_B at ho;obtain⟨x10,gx10,ho⟩:=bS ho;have wx10:=qx gx10;obtain⟨x11,gx11,ho⟩:=bS ho;have wx11:=qx gx11;obtain⟨x12,gx12,ho⟩:=bS ho;have w13:=s202 a0 x10 x11 gx12;obtain⟨x14,gx14,ho⟩:=bS ho;have w15:=s203 x12 v37_1 gx14;cases x14 with
  |true=>
   rw[if_pos rfl]at ho;cases ho;simp only[simprocAttr,R0,b184_1, *];refine ai rfl (ei _ (ei _ (ai rfl ?_)));simp only[simprocAttr,R0, *]
  |false=>
   rw[if_neg wC]at ho;obtain⟨l17,gl17,ho⟩:=bS ho;have w16:=fun a b c d e=> qC (α:=Int) (n:=o3_1.length) (m:=1) (ds:=[V.int .i64 v37_1]) gl17 (by first|rfl|simp) (by first|rfl|simp) rfl a b c d e;have w16l:=qM gl17;cases ho;simp only[simprocAttr,R0,b184_1, *];refine ai rfl (ei _ (ei _ (ai rfl ?_)));simp only[simprocAttr,R0, *]
 ·rintro v37_1 o3_1 e h ⟨u7,k8,rfl,h_6⟩ hge t1 ho
  unfold F184_1_D at ho;cases ho;simp only[simprocAttr,R0,b184_1, *];intro ht; subst ht;refine ai rfl (ei _ (ei _ (ai rfl ?_)));simp only[simprocAttr,R0, *]
def I184_3(a0:qc)(a2:Int)(x1:List Int)(zo3_1:List Int)(o2_2:List (List Int))(v57_2:Int)(x23:Int)(u7 u20:Nat)(v64_3:Int)(o4_3:(List Int))(e:Env)(h:Heap):Prop:=
 ∃u26 k27:Nat,h=⟨[(0,none),(1,some [V.int .i64 a0.Complex.Prime,V.isl (a0.Complex.Dims.map Enc.enc),V.isl (a0.Complex.Maps.map Enc.enc)]),(u20,some (o2_2.map Enc.enc)),(u7,some (zo3_1.map Enc.enc)),(u26,some (o4_3.map Enc.enc))],k27⟩∧e.length=127∧e.at 2=V.int .i64 a2∧e.at 9=V.ptr 1 1 0∧e.at 10=V.isl (x1.map Enc.enc)∧e.at 11=V.sl 2 u20 0 o2_2.length 1∧e.at 12=V.sl 3 u7 0 zo3_1.length 1∧e.at 15=V.int .i64 x23∧e.at 16=V.sl 4 u26 0 o4_3.length 1∧e.at 55=V.isl (x1.map Enc.enc)∧e.at 56=V.int .i64 (x1.length:Int)∧e.at 57=V.int .i64 v57_2∧e.at 62=V.sl 3 u7 0 zo3_1.length 1∧e.at 63=V.int .i64 ((zo3_1.length:Nat):Int)∧e.at 64=V.int .i64 v64_3
def P184_3(a0:qc)(a2:Int)(x1:List Int)(zo3_1:List Int)(o2_2:List (List Int))(v57_2:Int)(x23:Int)(u7 u20:Nat)(zo4_3:(List Int))(x:Ex)(e:Env)(h:Heap):Prop:=
 x= .normal∧∃u26 k27:Nat,h=⟨[(0,none),(1,some [V.int .i64 a0.Complex.Prime,V.isl (a0.Complex.Dims.map Enc.enc),V.isl (a0.Complex.Maps.map Enc.enc)]),(u20,some (o2_2.map Enc.enc)),(u7,some (zo3_1.map Enc.enc)),(u26,some (zo4_3.map Enc.enc))],k27⟩∧e.length=127∧e.at 2=V.int .i64 a2∧e.at 9=V.ptr 1 1 0∧e.at 10=V.isl (x1.map Enc.enc)∧e.at 11=V.sl 2 u20 0 o2_2.length 1∧e.at 12=V.sl 3 u7 0 zo3_1.length 1∧e.at 16=V.sl 4 u26 0 zo4_3.length 1∧e.at 55=V.isl (x1.map Enc.enc)∧e.at 56=V.int .i64 (x1.length:Int)∧e.at 57=V.int .i64 v57_2
theorem l184_3(a0:qc)(a2:Int)(x1:List Int)(zo3_1:List Int)(o2_2:List (List Int))(v57_2:Int)(x23:Int)(u7 u20:Nat){lo:Int}{s:(List Int)}{t:(List Int)}(hF:forR lo ((zo3_1.length:Nat):Int) (F184_3_B a0 a2 x1 zo3_1 o2_2 v57_2 x23) (F184_3_D a0 a2 x1 zo3_1 o2_2 v57_2 x23) s=some t){e:Env}{h:Heap}(hI:I184_3 a0 a2 x1 zo3_1 o2_2 v57_2 x23 u7 u20 lo s e h):W A c184_3 e h (P184_3 a0 a2 x1 zo3_1 o2_2 v57_2 x23 u7 u20 t):=by
 show W A (.block 4 (.loop false b184_3)) e h _;rw[qi];refine qr hF 5 (by obtain⟨_,_,rfl,_⟩:=hI; rfl) (I184_3 a0 a2 x1 zo3_1 o2_2 v57_2 x23 u7 u20) hI ?_ ?_
 ·rintro v64_3 o4_3 e h ⟨u26,k27,rfl,h_25⟩ hlt hw o ho
  unfold F184_3_B at ho;obtain⟨x29,gx29,ho⟩:=bS ho;obtain⟨w30a,w30b⟩:=ql gx29;have w30c:=qV gx29;have w30d:List.drop (Int.toNat v64_3) (zo3_1.map Enc.enc)=(V.int .i64 x29)::List.drop ((Int.toNat v64_3)+1) (zo3_1.map Enc.enc):=jO w30b;obtain⟨x31,gx31,ho⟩:=bS ho;have wx31:=qx gx31;obtain⟨x32,gx32,ho⟩:=bS ho;obtain⟨w33a,w33b⟩:=ql gx32;obtain⟨x34,gx34,ho⟩:=bS ho;obtain⟨w35a,w35b⟩:=ql gx34;obtain⟨x36,gx36,ho⟩:=bS ho;obtain⟨w37a,w37b⟩:=ql gx36;obtain⟨l39,gl39,ho⟩:=bS ho;have w38:=fun a b c d e=> qC (α:=Int) (n:=o4_3.length) (m:=1) (ds:=[V.int .i64 x36]) gl39 (by first|rfl|simp) (by first|rfl|simp) rfl a b c d e;have w38l:=qM gl39;cases ho;simp only[simprocAttr,R0,b184_3, *];refine ai rfl (ei _ (ei _ (ai rfl ?_)));simp only[simprocAttr,R0, *]
 ·rintro v64_3 o4_3 e h ⟨u26,k27,rfl,h_25⟩ hge t1 ho
  unfold F184_3_D at ho;cases ho;simp only[simprocAttr,R0,b184_3, *];intro ht; subst ht;refine ai rfl (ei _ (ei _ (ai rfl ?_)));simp only[simprocAttr,R0, *]
def I184_2(a0:qc)(a2:Int)(x1:List Int)(zo3_1:List Int)(u7:Nat)(v57_2:Int)(o2_2:(List (List Int)))(e:Env)(h:Heap):Prop:=
 ∃u20 k21:Nat,h=⟨[(0,none),(1,some [V.int .i64 a0.Complex.Prime,V.isl (a0.Complex.Dims.map Enc.enc),V.isl (a0.Complex.Maps.map Enc.enc)]),(u20,some (o2_2.map Enc.enc)),(u7,some (zo3_1.map Enc.enc))],k21⟩∧e.length=127∧e.at 2=V.int .i64 a2∧e.at 9=V.ptr 1 1 0∧e.at 10=V.isl (x1.map Enc.enc)∧e.at 11=V.sl 2 u20 0 o2_2.length 1∧e.at 12=V.sl 3 u7 0 zo3_1.length 1∧e.at 55=V.isl (x1.map Enc.enc)∧e.at 56=V.int .i64 (x1.length:Int)∧e.at 57=V.int .i64 v57_2
def P184_2(a0:qc)(a2:Int)(x1:List Int)(zo3_1:List Int)(u7:Nat)(zo2_2:(List (List Int)))(x:Ex)(e:Env)(h:Heap):Prop:=
 x= .normal∧∃u20 k21:Nat,h=⟨[(0,none),(1,some [V.int .i64 a0.Complex.Prime,V.isl (a0.Complex.Dims.map Enc.enc),V.isl (a0.Complex.Maps.map Enc.enc)]),(u20,some (zo2_2.map Enc.enc)),(u7,some (zo3_1.map Enc.enc))],k21⟩∧e.length=127∧e.at 2=V.int .i64 a2∧e.at 9=V.ptr 1 1 0∧e.at 10=V.isl (x1.map Enc.enc)∧e.at 11=V.sl 2 u20 0 zo2_2.length 1
theorem l184_2(a0:qc)(a2:Int)(x1:List Int)(zo3_1:List Int)(u7:Nat){lo:Int}{s:(List (List Int))}{t:(List (List Int))}(hF:forR lo (x1.length:Int) (F184_2_B a0 a2 x1 zo3_1) (F184_2_D a0 a2 x1 zo3_1) s=some t){e:Env}{h:Heap}(hI:I184_2 a0 a2 x1 zo3_1 u7 lo s e h):W A c184_2 e h (P184_2 a0 a2 x1 zo3_1 u7 t):=by
 show W A (.block 2 (.loop false b184_2)) e h _;rw[qi];refine qr hF 4 (by obtain⟨_,_,rfl,_⟩:=hI; rfl) (I184_2 a0 a2 x1 zo3_1 u7) hI ?_ ?_
 ·rintro v57_2 o2_2 e h ⟨u20,k21,rfl,h_19⟩ hlt hw o ho
  unfold F184_2_B at ho;obtain⟨x23,gx23,ho⟩:=bS ho;obtain⟨w24a,w24b⟩:=ql gx23;obtain⟨zo4_3,gt40,ho⟩:=bS ho;simp only[simprocAttr,R0,b184_2, *];refine W.mono (l184_3 a0 a2 x1 zo3_1 o2_2 v57_2 x23 u7 u20 gt40 (ei _ (ei _ (ai rfl ?_)))) ?_
  ·simp only[simprocAttr,R0, *]
  rintro _ e _ ⟨rfl,u26,k27,rfl,h_28⟩;obtain⟨l42,gl42,ho⟩:=bS ho;have w41:=fun a b c d e=> qC (α:=List Int) (n:=o2_2.length) (m:=1) (ds:=[V.isl (zo4_3.map Enc.enc)]) gl42 (by first|rfl|simp) (by first|rfl|simp) rfl a b c d e;have w41l:=qM gl42;cases ho;simp only[simprocAttr,R0,qO (α:=Int) zo4_3, *];refine ai rfl (ei _ (ei _ (ai rfl ?_)));simp only[simprocAttr,R0,qO (α:=Int) zo4_3, *]
 ·rintro v57_2 o2_2 e h ⟨u20,k21,rfl,h_19⟩ hge t1 ho
  unfold F184_2_D at ho;cases ho;simp only[simprocAttr,R0,b184_2, *];intro ht; subst ht;refine ai rfl (ei _ (ei _ (ai rfl ?_)));simp only[simprocAttr,R0, *]
def I184_5(a0:qc)(a2:Int)(x1:List Int)(zo3_1:List Int)(x44:List (List Int))(o4_4:List (List Int))(v95_4:Int)(x50:List Int)(u7 u47:Nat)(v105_5:Int)(o5_5:(List Int))(e:Env)(h:Heap):Prop:=
 ∃u57 k58:Nat,h=⟨[(0,none),(1,some [V.int .i64 a0.Complex.Prime,V.isl (a0.Complex.Dims.map Enc.enc),V.isl (a0.Complex.Maps.map Enc.enc)]),(0,none),(u7,some (zo3_1.map Enc.enc)),(u47,some (o4_4.map Enc.enc)),(u57,some (o5_5.map Enc.enc))],k58⟩∧e.length=127∧e.at 2=V.int .i64 a2∧e.at 9=V.ptr 1 1 0∧e.at 10=V.isl (x1.map Enc.enc)∧e.at 19=V.sl 4 u47 0 o4_4.length 1∧e.at 21=V.isl (x50.map Enc.enc)∧e.at 22=V.sl 5 u57 0 o5_5.length 1∧e.at 93=V.isl (x44.map Enc.enc)∧e.at 94=V.int .i64 (x44.length:Int)∧e.at 95=V.int .i64 v95_4∧e.at 103=V.isl (x1.map Enc.enc)∧e.at 104=V.int .i64 (x1.length:Int)∧e.at 105=V.int .i64 v105_5
def P184_5(a0:qc)(a2:Int)(x1:List Int)(zo3_1:List Int)(x44:List (List Int))(o4_4:List (List Int))(v95_4:Int)(x50:List Int)(u7 u47:Nat)(zo5_5:(List Int))(x:Ex)(e:Env)(h:Heap):Prop:=
 x= .normal∧∃u57 k58:Nat,h=⟨[(0,none),(1,some [V.int .i64 a0.Complex.Prime,V.isl (a0.Complex.Dims.map Enc.enc),V.isl (a0.Complex.Maps.map Enc.enc)]),(0,none),(u7,some (zo3_1.map Enc.enc)),(u47,some (o4_4.map Enc.enc)),(u57,some (zo5_5.map Enc.enc))],k58⟩∧e.length=127∧e.at 2=V.int .i64 a2∧e.at 9=V.ptr 1 1 0∧e.at 10=V.isl (x1.map Enc.enc)∧e.at 19=V.sl 4 u47 0 o4_4.length 1∧e.at 22=V.sl 5 u57 0 zo5_5.length 1∧e.at 93=V.isl (x44.map Enc.enc)∧e.at 94=V.int .i64 (x44.length:Int)∧e.at 95=V.int .i64 v95_4
theorem l184_5(a0:qc)(a2:Int)(x1:List Int)(zo3_1:List Int)(x44:List (List Int))(o4_4:List (List Int))(v95_4:Int)(x50:List Int)(u7 u47:Nat){lo:Int}{s:(List Int)}{t:(List Int)}(hF:forR lo (x1.length:Int) (F184_5_B a0 a2 x1 zo3_1 x44 o4_4 v95_4 x50) (F184_5_D a0 a2 x1 zo3_1 x44 o4_4 v95_4 x50) s=some t){e:Env}{h:Heap}(hI:I184_5 a0 a2 x1 zo3_1 x44 o4_4 v95_4 x50 u7 u47 lo s e h):W A c184_5 e h (P184_5 a0 a2 x1 zo3_1 x44 o4_4 v95_4 x50 u7 u47 t):=by
 show W A (.block 8 (.loop false b184_5)) e h _;rw[qi];refine qr hF 6 (by obtain⟨_,_,rfl,_⟩:=hI; rfl) (I184_5 a0 a2 x1 zo3_1 x44 o4_4 v95_4 x50 u7 u47) hI ?_ ?_
 ·rintro v105_5 o5_5 e h ⟨u57,k58,rfl,h_56⟩ hlt hw o ho
  unfold F184_5_B at ho;obtain⟨x60,gx60,ho⟩:=bS ho;obtain⟨w61a,w61b⟩:=ql gx60;obtain⟨x62,gx62,ho⟩:=bS ho;obtain⟨w63a,w63b⟩:=ql gx62;obtain⟨x64,gx64,ho⟩:=bS ho;obtain⟨w65a,w65b⟩:=ql gx64;have w65c:=qV gx64;have w65d:List.drop (Int.toNat x60) (o5_5.map Enc.enc)=(V.int .i64 x64)::List.drop ((Int.toNat x60)+1) (o5_5.map Enc.enc):=jO w65b;obtain⟨l66,gl66,ho⟩:=bS ho;obtain⟨w67a,w67b,w67c,w67d,w67e⟩:=xr gl66;replace w67e:List.take (Int.toNat x60) (o5_5.map Enc.enc)++[V.int .i64 x62]++List.drop (Int.toNat x60+1) (o5_5.map Enc.enc)=List.map Enc.enc l66:=w67e;cases ho;simp only[simprocAttr,R0,b184_5, *];refine ai rfl (ei _ (ei _ (ai rfl ?_)));simp only[simprocAttr,R0, *]
 ·rintro v105_5 o5_5 e h ⟨u57,k58,rfl,h_56⟩ hge t1 ho
  unfold F184_5_D at ho;cases ho;simp only[simprocAttr,R0,b184_5, *];intro ht; subst ht;refine ai rfl (ei _ (ei _ (ai rfl ?_)));simp only[simprocAttr,R0, *]
def I184_4(a0:qc)(a2:Int)(x1:List Int)(zo3_1:List Int)(x44:List (List Int))(u7:Nat)(v95_4:Int)(o4_4:(List (List Int)))(e:Env)(h:Heap):Prop:=
 ∃u47 k48:Nat,h=⟨[(0,none),(1,some [V.int .i64 a0.Complex.Prime,V.isl (a0.Complex.Dims.map Enc.enc),V.isl (a0.Complex.Maps.map Enc.enc)]),(0,none),(u7,some (zo3_1.map Enc.enc)),(u47,some (o4_4.map Enc.enc))],k48⟩∧e.length=127∧e.at 2=V.int .i64 a2∧e.at 9=V.ptr 1 1 0∧e.at 10=V.isl (x1.map Enc.enc)∧e.at 19=V.sl 4 u47 0 o4_4.length 1∧e.at 93=V.isl (x44.map Enc.enc)∧e.at 94=V.int .i64 (x44.length:Int)∧e.at 95=V.int .i64 v95_4
def P184_4(a0:qc)(a2:Int)(x1:List Int)(zo3_1:List Int)(x44:List (List Int))(u7:Nat)(zo4_4:(List (List Int)))(x:Ex)(e:Env)(h:Heap):Prop:=
 x= .normal∧∃u47 k48:Nat,h=⟨[(0,none),(1,some [V.int .i64 a0.Complex.Prime,V.isl (a0.Complex.Dims.map Enc.enc),V.isl (a0.Complex.Maps.map Enc.enc)]),(0,none),(u7,some (zo3_1.map Enc.enc)),(u47,some (zo4_4.map Enc.enc))],k48⟩∧e.length=127∧e.at 9=V.ptr 1 1 0∧e.at 19=V.sl 4 u47 0 zo4_4.length 1
theorem l184_4(a0:qc)(a2:Int)(x1:List Int)(zo3_1:List Int)(x44:List (List Int))(u7:Nat){lo:Int}{s:(List (List Int))}{t:(List (List Int))}(hF:forR lo (x44.length:Int) (F184_4_B a0 a2 x1 zo3_1 x44) (F184_4_D a0 a2 x1 zo3_1 x44) s=some t){e:Env}{h:Heap}(hI:I184_4 a0 a2 x1 zo3_1 x44 u7 lo s e h):W A c184_4 e h (P184_4 a0 a2 x1 zo3_1 x44 u7 t):=by
 show W A (.block 6 (.loop false b184_4)) e h _;rw[qi];refine qr hF 5 (by obtain⟨_,_,rfl,_⟩:=hI; rfl) (I184_4 a0 a2 x1 zo3_1 x44 u7) hI ?_ ?_
 ·rintro v95_4 o4_4 e h ⟨u47,k48,rfl,h_46⟩ hlt hw o ho
  unfold F184_4_B at ho;obtain⟨x50,gx50,ho⟩:=bS ho;obtain⟨w51a,w51b⟩:=ql gx50;obtain⟨x52,gx52,ho⟩:=bS ho;have w53:=s102 a0.Complex a2 gx52;obtain⟨l54,gl54,ho⟩:=bS ho;obtain⟨w55a,w55b,w55c,w55d,w55e⟩:=mkL_w gl54;replace w55e:(List.replicate (Int.toNat x52) [V.int .i64 0]).flatten=List.map Enc.enc l54:=w55e;obtain⟨zo5_5,gt68,ho⟩:=bS ho;simp only[simprocAttr, -Int.reduceNatCast',R0,b184_4, *];refine W.mono (l184_5 a0 a2 x1 zo3_1 x44 o4_4 v95_4 x50 u7 u47 gt68 (ei _ (ei _ (ai rfl ?_)))) ?_
  ·simp only[simprocAttr, -Int.reduceNatCast',R0, *]
  rintro _ e _ ⟨rfl,u57,k58,rfl,h_59⟩;obtain⟨l70,gl70,ho⟩:=bS ho;have w69:=fun a b c d e=> qC (α:=List Int) (n:=o4_4.length) (m:=1) (ds:=[V.isl (zo5_5.map Enc.enc)]) gl70 (by first|rfl|simp) (by first|rfl|simp) rfl a b c d e;have w69l:=qM gl70;cases ho;simp only[simprocAttr, -Int.reduceNatCast',R0,qO (α:=Int) zo5_5, *];refine ai rfl (ei _ (ei _ (ai rfl ?_)));simp only[simprocAttr, -Int.reduceNatCast',R0,qO (α:=Int) zo5_5, *]
 ·rintro v95_4 o4_4 e h ⟨u47,k48,rfl,h_46⟩ hge t1 ho
  unfold F184_4_D at ho;cases ho;simp only[simprocAttr, -Int.reduceNatCast',R0,b184_4, *];intro ht; subst ht;refine ai rfl (ei _ (ei _ (ai rfl ?_)));simp only[simprocAttr, -Int.reduceNatCast',R0, *]
theorem s184(a0:qc)(a1:Int)(a2:Int)(a3:Int){r:List (List Int)}(hF:F184 a0 a1 a2 a3=some r):ans A 184 [(eF a0),V.int .i64 a1,V.int .i64 a2,V.int .i64 a3]=some (Enc.enc r):=by
 refine qu (f:=p184) rfl rfl rfl fun e hl he=>?_;have h0_0:e.at 0=(eF a0):=he 0 _ rfl;have h1_0:e.at 1=V.int .i64 a1:=he 1 _ rfl;have h2_0:e.at 2=V.int .i64 a2:=he 2 _ rfl;have h3_0:e.at 3=V.int .i64 a3:=he 3 _ rfl;have hl_0:e.length=127:=hl;clear he hl;show W A b184 e ⟨[],0⟩ _;unfold F184 at hF;obtain⟨x1,gx1,hF⟩:=bS hF;have w2:=s202 a0 a2 a3 gx1;obtain⟨x3,gx3,hF⟩:=bS hF;have wx3:=qx gx3;obtain⟨x4,gx4,hF⟩:=bS hF;have w5:=s102 a0.Complex x3 gx4;obtain⟨zo3_1,gt18,hF⟩:=bS hF;simp only[simprocAttr, -Int.reduceNatCast',R0,b184, *];refine W.mono (l184_1 a0 a1 a2 a3 x1 x4 gt18 (ei _ (ei _ (ai rfl ?_)))) ?_
 ·simp only[simprocAttr, -Int.reduceNatCast',R0, *]
 rintro _ e _ ⟨rfl,u7,k8,rfl,hl_9,h2_9,h9_9,h10_9,h11_9,h12_9⟩;obtain⟨zo2_2,gt43,hF⟩:=bS hF;simp only[simprocAttr, -Int.reduceNatCast',R0, *];refine W.mono (l184_2 a0 a2 x1 zo3_1 u7 gt43 (ei _ (ei _ (ai rfl ?_)))) ?_
 ·simp only[simprocAttr, -Int.reduceNatCast',R0, *]
 rintro _ e _ ⟨rfl,u20,k21,rfl,hl_22,h2_22,h9_22,h10_22,h11_22⟩;obtain⟨x44,gx44,hF⟩:=bS hF;have w45:=s125 a0.Complex.Prime zo2_2 gx44;obtain⟨zo4_4,gt71,hF⟩:=bS hF;simp only[simprocAttr, -Int.reduceNatCast',R0,qO (α:=List Int) zo2_2, *];refine W.mono (l184_4 a0 a2 x1 zo3_1 x44 u7 gt71 (ei _ (ei _ (ai rfl ?_)))) ?_
 ·simp only[simprocAttr, -Int.reduceNatCast',R0,qO (α:=List Int) zo2_2, *]
 rintro _ e _ ⟨rfl,u47,k48,rfl,hl_49,h9_49,h19_49⟩;obtain⟨x72,gx72,hF⟩:=bS hF;have w73:tans A 133 [1] [V.int .i64 a0.Complex.Prime,V.isl (zo4_4.map Enc.enc)]=some (V.isl (x72.map Enc.enc)):=t133 a0.Complex.Prime zo4_4 gx72;have w73t:=zt (α:=List Int) x72;have hE:=wA hF; subst hE;simp only[simprocAttr, -Int.reduceNatCast',R0,qO (α:=List Int) zo4_4, *];exact qd (by simp only[simprocAttr, -Int.reduceNatCast',R0,qe,p184,Rs.ev,qa,qO (α:=List Int) zo4_4,frzs (α:=List Int) x72,qO (α:=List Int) x72, *])
theorem t184(a0:qc)(a1:Int)(a2:Int)(a3:Int){r:List (List Int)}(hF:F184 a0 a1 a2 a3=some r):tans A 184 [1] [(eF a0),V.int .i64 a1,V.int .i64 a2,V.int .i64 a3]=some (Enc.enc r):=by
 refine tans_of (f:=p184) rfl rfl rfl fun e hl he=>?_;have h0_0:e.at 0=(eF a0):=he 0 _ rfl;have h1_0:e.at 1=V.int .i64 a1:=he 1 _ rfl;have h2_0:e.at 2=V.int .i64 a2:=he 2 _ rfl;have h3_0:e.at 3=V.int .i64 a3:=he 3 _ rfl;have hl_0:e.length=127:=hl;clear he hl;show W A b184 e ⟨[],0⟩ _;unfold F184 at hF;obtain⟨x1,gx1,hF⟩:=bS hF;have w2:=s202 a0 a2 a3 gx1;obtain⟨x3,gx3,hF⟩:=bS hF;have wx3:=qx gx3;obtain⟨x4,gx4,hF⟩:=bS hF;have w5:=s102 a0.Complex x3 gx4;obtain⟨zo3_1,gt18,hF⟩:=bS hF;simp only[simprocAttr, -Int.reduceNatCast',R0,b184, *];refine W.mono (l184_1 a0 a1 a2 a3 x1 x4 gt18 (ei _ (ei _ (ai rfl ?_)))) ?_
 ·simp only[simprocAttr, -Int.reduceNatCast',R0, *]
 rintro _ e _ ⟨rfl,u7,k8,rfl,hl_9,h2_9,h9_9,h10_9,h11_9,h12_9⟩;obtain⟨zo2_2,gt43,hF⟩:=bS hF;simp only[simprocAttr, -Int.reduceNatCast',R0, *];refine W.mono (l184_2 a0 a2 x1 zo3_1 u7 gt43 (ei _ (ei _ (ai rfl ?_)))) ?_
 ·simp only[simprocAttr, -Int.reduceNatCast',R0, *]
 rintro _ e _ ⟨rfl,u20,k21,rfl,hl_22,h2_22,h9_22,h10_22,h11_22⟩;obtain⟨x44,gx44,hF⟩:=bS hF;have w45:=s125 a0.Complex.Prime zo2_2 gx44;obtain⟨zo4_4,gt71,hF⟩:=bS hF;simp only[simprocAttr, -Int.reduceNatCast',R0,qO (α:=List Int) zo2_2, *];refine W.mono (l184_4 a0 a2 x1 zo3_1 x44 u7 gt71 (ei _ (ei _ (ai rfl ?_)))) ?_
 ·simp only[simprocAttr, -Int.reduceNatCast',R0,qO (α:=List Int) zo2_2, *]
 rintro _ e _ ⟨rfl,u47,k48,rfl,hl_49,h9_49,h19_49⟩;obtain⟨x72,gx72,hF⟩:=bS hF;have w73:tans A 133 [1] [V.int .i64 a0.Complex.Prime,V.isl (zo4_4.map Enc.enc)]=some (V.isl (x72.map Enc.enc)):=t133 a0.Complex.Prime zo4_4 gx72;have w73t:=zt (α:=List Int) x72;have hE:=wA hF; subst hE;simp only[simprocAttr, -Int.reduceNatCast',R0,qO (α:=List Int) zo4_4, *];exact jd (by simp only[simprocAttr, -Int.reduceNatCast',R0,qe,p184,Rs.ev,qa,qO (α:=List Int) zo4_4,frzs (α:=List Int) x72,qO (α:=List Int) x72, *])
def F185_1_B(a0:qc)(a2:Int)(x8:List (List Int))(v30_1:Int)(o1_1:(List (List Int))):Option (((List (List Int)))⊕((List (List Int)))):=
 (getI x8 v30_1).bind fun x14=>
(chk (a2+1)).bind fun x16=>
(F91 a0.Complex x16 x14).bind fun x17=>
(app 24 o1_1 [x17]).bind fun l20=>
some (.inl l20)
def F185_1_D(a0:qc)(a2:Int)(x8:List (List Int))(v30_1:Int)(o1_1:(List (List Int))):Option ((List (List Int))):=
 some o1_1
def F185(a0:qc)(a1:Int)(a2:Int)(a3:Int):Option (List (List Int)):=
 (chk (a1 - 1)).bind fun x1=>
 (chk (a3 - 1)).bind fun x2=>
 (F184 a0 x1 a2 x2).bind fun x3=>
 (chk (a2+1)).bind fun x5=>
 (chk (a3+a1)).bind fun x6=>
 (chk (x6 - 1)).bind fun x7=>
 (F184 a0 x1 x5 x7).bind fun x8=>
 (forR 0 (x8.length:Int) (F185_1_B a0 a2 x8) (F185_1_D a0 a2 x8) x3).bind fun zo1_1=>
 (F133 a0.Complex.Prime zo1_1).bind fun x22=>
 some x22
def I185_1(a0:qc)(a2:Int)(x8:List (List Int))(v30_1:Int)(o1_1:(List (List Int)))(e:Env)(h:Heap):Prop:=
 ∃u11 k12:Nat,h=⟨[(0,none),(u11,some (o1_1.map Enc.enc))],k12⟩∧e.length=49∧e.at 2=V.int .i64 a2∧e.at 4=V.iptr [V.int .i64 a0.Complex.Prime,V.isl (a0.Complex.Dims.map Enc.enc),V.isl (a0.Complex.Maps.map Enc.enc),V.isl (a0.Levels.map Enc.enc)]∧e.at 9=V.sl 1 u11 0 o1_1.length 1∧e.at 28=V.isl (x8.map Enc.enc)∧e.at 29=V.int .i64 (x8.length:Int)∧e.at 30=V.int .i64 v30_1
def P185_1(a0:qc)(a2:Int)(x8:List (List Int))(zo1_1:(List (List Int)))(x:Ex)(e:Env)(h:Heap):Prop:=
 x= .normal∧∃u11 k12:Nat,h=⟨[(0,none),(u11,some (zo1_1.map Enc.enc))],k12⟩∧e.length=49∧e.at 4=V.iptr [V.int .i64 a0.Complex.Prime,V.isl (a0.Complex.Dims.map Enc.enc),V.isl (a0.Complex.Maps.map Enc.enc),V.isl (a0.Levels.map Enc.enc)]∧e.at 9=V.sl 1 u11 0 zo1_1.length 1
theorem l185_1(a0:qc)(a2:Int)(x8:List (List Int)){lo:Int}{s:(List (List Int))}{t:(List (List Int))}(hF:forR lo (x8.length:Int) (F185_1_B a0 a2 x8) (F185_1_D a0 a2 x8) s=some t){e:Env}{h:Heap}(hI:I185_1 a0 a2 x8 lo s e h):W A c185_1 e h (P185_1 a0 a2 x8 t):=by
 show W A (.block 0 (.loop false b185_1)) e h _;rw[qi];refine qr hF 2 (by obtain⟨_,_,rfl,_⟩:=hI; rfl) (I185_1 a0 a2 x8) hI ?_ ?_
 ·rintro v30_1 o1_1 e h ⟨u11,k12,rfl,h_10⟩ hlt hw o ho
  unfold F185_1_B at ho;obtain⟨x14,gx14,ho⟩:=bS ho;obtain⟨w15a,w15b⟩:=ql gx14;obtain⟨x16,gx16,ho⟩:=bS ho;have wx16:=qx gx16;obtain⟨x17,gx17,ho⟩:=bS ho;have w18:=s91 a0.Complex x16 x14 gx17;obtain⟨l20,gl20,ho⟩:=bS ho;have w19:=fun a b c d e=> qC (α:=List Int) (n:=o1_1.length) (m:=1) (ds:=[V.isl (x17.map Enc.enc)]) gl20 (by first|rfl|simp) (by first|rfl|simp) rfl a b c d e;have w19l:=qM gl20;cases ho;simp only[simprocAttr,R0,b185_1, *];refine ai rfl (ei _ (ei _ (ai rfl ?_)));simp only[simprocAttr,R0, *]
 ·rintro v30_1 o1_1 e h ⟨u11,k12,rfl,h_10⟩ hge t1 ho
  unfold F185_1_D at ho;cases ho;simp only[simprocAttr,R0,b185_1, *];intro ht; subst ht;refine ai rfl (ei _ (ei _ (ai rfl ?_)));simp only[simprocAttr,R0, *]
theorem s185(a0:qc)(a1:Int)(a2:Int)(a3:Int){r:List (List Int)}(hF:F185 a0 a1 a2 a3=some r):ans A 185 [(eF a0),V.int .i64 a1,V.int .i64 a2,V.int .i64 a3]=some (Enc.enc r):=by
 refine qu (f:=p185) rfl rfl rfl fun e hl he=>?_;have h0_0:e.at 0=(eF a0):=he 0 _ rfl;have h1_0:e.at 1=V.int .i64 a1:=he 1 _ rfl;have h2_0:e.at 2=V.int .i64 a2:=he 2 _ rfl;have h3_0:e.at 3=V.int .i64 a3:=he 3 _ rfl;have hl_0:e.length=49:=hl;clear he hl;show W A b185 e ⟨[],0⟩ _;unfold F185 at hF;obtain⟨x1,gx1,hF⟩:=bS hF;have wx1:=qx gx1;obtain⟨x2,gx2,hF⟩:=bS hF;have wx2:=qx gx2;obtain⟨x3,gx3,hF⟩:=bS hF;have w4:tans A 184 [1] [(eF a0),V.int .i64 x1,V.int .i64 a2,V.int .i64 x2]=some (V.isl (x3.map Enc.enc)):=t184 a0 x1 a2 x2 gx3;have w4t:=zt (α:=List Int) x3;obtain⟨x5,gx5,hF⟩:=bS hF;have wx5:=qx gx5;obtain⟨x6,gx6,hF⟩:=bS hF;have wx6:=qx gx6;obtain⟨x7,gx7,hF⟩:=bS hF;have wx7:=qx gx7;obtain⟨x8,gx8,hF⟩:=bS hF;have w9:=s184 a0 x1 x5 x7 gx8;obtain⟨zo1_1,gt21,hF⟩:=bS hF;simp only[simprocAttr,R0,b185, *];refine W.mono (l185_1 a0 a2 x8 gt21 (ei _ (ei _ (ai rfl ?_)))) ?_
 ·simp only[simprocAttr,R0, *]
 rintro _ e _ ⟨rfl,u11,k12,rfl,h_13⟩;obtain⟨x22,gx22,hF⟩:=bS hF;have w23:=s133 a0.Complex.Prime zo1_1 gx22;cases hF;simp only[simprocAttr,R0,qO (α:=List Int) zo1_1, *];exact qd (by simp only[simprocAttr,R0,qe,p185,Rs.ev,qa,qO (α:=List Int) zo1_1, *])
def F123(a0:Int):Option Bool:=
 some (!(decide (a0=0)))
theorem s123(a0:Int){r:Bool}(hF:F123 a0=some r):ans A 123 [V.int .i64 a0]=some (Enc.enc r):=by
 refine qu (f:=p123) rfl rfl rfl fun e hl he=>?_;have h0_0:e.at 0=V.int .i64 a0:=he 0 _ rfl;have hl_0:e.length=5:=hl;clear he hl;show W A b123 e ⟨[],0⟩ _;unfold F123 at hF;cases hF;simp only[simprocAttr,R0,b123, *];exact qd (by simp only[simprocAttr,R0,qe,p123,Rs.ev,qa, *])
def F101_1_B(a0:List (List Int))(v9_1:Int)(o0_1:(List Int)):Option (((List Int))⊕((List Int))):=
 (getI a0 v9_1).bind fun x5=>
(F115 x5 (fun x=> F123 x)).bind fun x7=>
(app 8 o0_1 [x7]).bind fun l10=>
some (.inl l10)
def F101_1_D(a0:List (List Int))(v9_1:Int)(o0_1:(List Int)):Option ((List Int)):=
 some o0_1
def F101(a0:List (List Int)):Option (List Int):=
 (forR 0 (a0.length:Int) (F101_1_B a0) (F101_1_D a0) ([]:(List Int))).bind fun zo0_1=>
 some zo0_1
def I101_1(a0:List (List Int))(v9_1:Int)(o0_1:(List Int))(e:Env)(h:Heap):Prop:=
 ∃u2 k3:Nat,h=⟨[(u2,some (o0_1.map Enc.enc))],k3⟩∧e.length=20∧e.at 3=V.sl 0 u2 0 o0_1.length 1∧e.at 7=V.isl (a0.map Enc.enc)∧e.at 8=V.int .i64 (a0.length:Int)∧e.at 9=V.int .i64 v9_1
def P101_1(a0:List (List Int))(zo0_1:(List Int))(x:Ex)(e:Env)(h:Heap):Prop:=
 x= .normal∧∃u2 k3:Nat,h=⟨[(u2,some (zo0_1.map Enc.enc))],k3⟩∧e.length=20∧e.at 3=V.sl 0 u2 0 zo0_1.length 1
theorem l101_1(a0:List (List Int)){lo:Int}{s:(List Int)}{t:(List Int)}(hF:forR lo (a0.length:Int) (F101_1_B a0) (F101_1_D a0) s=some t){e:Env}{h:Heap}(hI:I101_1 a0 lo s e h):W A c101_1 e h (P101_1 a0 t):=by
 show W A (.block 0 (.loop false b101_1)) e h _;rw[qi];refine qr hF 1 (by obtain⟨_,_,rfl,_⟩:=hI; rfl) (I101_1 a0) hI ?_ ?_
 ·rintro v9_1 o0_1 e h ⟨u2,k3,rfl,h_1⟩ hlt hw o ho
  unfold F101_1_B at ho;obtain⟨x5,gx5,ho⟩:=bS ho;obtain⟨w6a,w6b⟩:=ql gx5;obtain⟨x7,gx7,ho⟩:=bS ho;have w8:ans A 115 [V.isl (x5.map Enc.enc),V.fn 123 [] []]=some (V.int .i64 x7):=s115 x5 (fun x=> F123 x) (Clo1.of (by intro h f; simp only[RZ,mapO]) (by intro h f; simp only[RZ,mapO]) (by intro f; simp only[RZ,RB]) (by intro f; simp only[RZ,RB]) (fun x _ hr=> s123 x hr)) gx7;obtain⟨l10,gl10,ho⟩:=bS ho;have w9:=fun a b c d e=> qC (α:=Int) (n:=o0_1.length) (m:=1) (ds:=[V.int .i64 x7]) gl10 (by first|rfl|simp) (by first|rfl|simp) rfl a b c d e;have w9l:=qM gl10;cases ho;simp only[simprocAttr,R0,b101_1, *];refine ai rfl (ei _ (ei _ (ai rfl ?_)));simp only[simprocAttr,R0, *]
 ·rintro v9_1 o0_1 e h ⟨u2,k3,rfl,h_1⟩ hge t1 ho
  unfold F101_1_D at ho;cases ho;simp only[simprocAttr,R0,b101_1, *];intro ht; subst ht;refine ai rfl (ei _ (ei _ (ai rfl ?_)));simp only[simprocAttr,R0, *]
theorem s101(a0:List (List Int)){r:List Int}(hF:F101 a0=some r):ans A 101 [V.isl (a0.map Enc.enc)]=some (Enc.enc r):=by
 refine qu (f:=p101) rfl rfl rfl fun e hl he=>?_;have h0_0:e.at 0=V.isl (a0.map Enc.enc):=he 0 _ rfl;have hl_0:e.length=20:=hl;clear he hl;show W A b101 e ⟨[],0⟩ _;unfold F101 at hF;obtain⟨zo0_1,gt11,hF⟩:=bS hF;simp only[simprocAttr, -Int.reduceNatCast',R0,b101, *];refine W.mono (l101_1 a0 gt11 (ei _ (ei _ (ai rfl ?_)))) ?_
 ·simp only[simprocAttr, -Int.reduceNatCast',R0, *]
 rintro _ e _ ⟨rfl,u2,k3,rfl,hl_4,h3_4⟩;have hE:=wA hF; subst hE;simp only[simprocAttr, -Int.reduceNatCast',R0, *];exact qd (by simp only[simprocAttr, -Int.reduceNatCast',R0,qe,p101,Rs.ev,qa,frzs (α:=Int) zo0_1,qO (α:=Int) zo0_1, *])
def F205_1_B(p:Int)(rows:List (List Int))(ls:List Int)(i:Int)(out:List Int):Option (List Int⊕List Int):=(getI ls i).bind fun a=>(getI rows i).bind fun r=>(getI out a).bind fun x=>(F139 out r p x).bind fun o=> some (.inl o)
def F205_1_D(i:Int)(out:List Int):Option (List Int):=some out
def F205(p:Int)(v:List Int)(rows:List (List Int)):Option (List Int):=(F96 v).bind fun d=>(F101 rows).bind fun ls=> forR 0 (ls.length:Int) (F205_1_B p rows ls) F205_1_D d
theorem d205(p:Int)(v:List Int)(rows:List (List Int)){r:List Int}(hF:F205 p v rows=some r):∃w h',res A 205 [V.int .i64 p,V.isl (v.map Enc.enc),V.isl (rows.map Enc.enc)] Heap.empty=some (w,h')∧∃K,Deep.rep h' w r K:=by
 refine res_dp (f:=p205) rfl rfl rfl fun e hl he=>?_;have h0_0:e.at 0=V.int .i64 p:=he 0 _ rfl;have h1_0:e.at 1=V.isl (v.map Enc.enc):=he 1 _ rfl;have h2_0:e.at 2=V.isl (rows.map Enc.enc):=he 2 _ rfl;have hl_0:e.length=33:=hl;clear he hl;show W A b205 e ⟨[],0⟩ _;unfold F205 at hF;obtain⟨d,gd,hF⟩:=bS hF;have wd:=t96 v gd;obtain⟨ls,gls,hF⟩:=bS hF;have wls:ans A 101 [V.isl (rows.map Enc.enc)]=some (V.isl (ls.map Enc.enc)):=s101 rows gls;simp only[simprocAttr,R1,b205,ze,zt, *];show W A (.block 0 (.loop true b205_1)) _ _ _;rw[qi];refine qr hF _ rfl (fun i q e h=>∃k u,h.ents[k]? =some (u,some (q.map Enc.enc))∧e.length=33∧e.at 0=V.int .i64 p∧e.at 2=V.isl (rows.map Enc.enc)∧e.at 7=V.sl k u 0 q.length 1∧e.at 13=V.isl (ls.map Enc.enc)∧e.at 14=V.int .i64 (ls.length:Int)∧e.at 15=V.int .i64 i) ?_ ?_ ?_
 ·refine⟨0,0,rfl,?_⟩
  simp only[simprocAttr,R1, *]
 ·clear hl_0 h0_0 h1_0 h2_0
  rintro i q e ⟨E,c⟩ ⟨k,u,g1,h_1⟩ hlt hw s' ho;unfold F205_1_B at ho;simp only at g1;obtain⟨a,ga,ho⟩:=bS ho;obtain⟨aa,ab⟩:=ql ga;obtain⟨x,gx,ho⟩:=bS ho;obtain⟨xa,xb⟩:=ql gx;obtain⟨y,gy,ho⟩:=bS ho;obtain⟨ya,yb⟩:=ql gy;have yc:=qV gy;obtain⟨o,go,ho⟩:=bS ho;cases ho;obtain⟨w1,w2⟩:=i139 go E c g1;have oy:qf none (List.drop a.toNat (q.map Enc.enc))=some (V.int .i64 y):=qE (by rw[List.getElem?_map,yb]; rfl);simp only[simprocAttr,R1,b205_1,aa,ab,xa,xb,ya,eq_true yc,oy,zj, *];refine ai rfl ⟨k,u,qI (List.getElem?_eq_some_iff.1 g1).1,?_⟩;simp only[simprocAttr,R1, *]
 ·clear hl_0 h0_0 h1_0 h2_0
  rintro i q e ⟨E,c⟩ ⟨k,u,g1,h_1⟩ hge t1 ho;unfold F205_1_D at ho;cases ho;simp only at g1;simp only[simprocAttr,R1,b205_1, *];intro ht; subst ht;refine ai (fun _=> trivial) ⟨_,?_,fun x=> x=k,xl (l:=q) g1 fun x=> yP⟩;simp only[simprocAttr,R1,qe,p205,Rs.ev, *]
theorem t205(p:Int)(v:List Int)(rows:List (List Int)){r:List Int}(hF:F205 p v rows=some r):tans A 205 [1] [V.int .i64 p,V.isl (v.map Enc.enc),V.isl (rows.map Enc.enc)]=some (Enc.enc r):=tans_of_deep (α:=List Int) (by decide) (d205 p v rows hF)
theorem s205(p:Int)(v:List Int)(rows:List (List Int)){r:List Int}(hF:F205 p v rows=some r):ans A 205 [V.int .i64 p,V.isl (v.map Enc.enc),V.isl (rows.map Enc.enc)]=some (Enc.enc r):=ans_of_deep (α:=List Int) (by decide) (d205 p v rows hF)
def F204_1_B(a0:Int)(a1:List (List Int))(a2:List (List Int))(v13_1:Int)(o0_1:(List (List Int))):Option (((List (List Int)))⊕((List (List Int)))):=
 (getI a1 v13_1).bind fun x5=>
(F205 a0 x5 a2).bind fun x7=>
(app 24 o0_1 [x7]).bind fun l10=>
some (.inl l10)
def F204_1_D(a0:Int)(a1:List (List Int))(a2:List (List Int))(v13_1:Int)(o0_1:(List (List Int))):Option ((List (List Int))):=
 some o0_1
def F204(a0:Int)(a1:List (List Int))(a2:List (List Int)):Option (List (List Int)):=
 (forR 0 (a1.length:Int) (F204_1_B a0 a1 a2) (F204_1_D a0 a1 a2) ([]:(List (List Int)))).bind fun zo0_1=>
 (F133 a0 zo0_1).bind fun x12=>
 some x12
theorem d204(a0:Int)(a1:List (List Int))(a2:List (List Int)){r:List (List Int)}(hF:F204 a0 a1 a2=some r):∃v h',res A 204 [V.int .i64 a0,V.isl (a1.map Enc.enc),V.isl (a2.map Enc.enc)] Heap.empty=some (v,h')∧∃K,Deep.rep h' v r K:=by
 refine res_dp (f:=p204) rfl rfl rfl fun e hl he=>?_;have h0_0:e.at 0=V.int .i64 a0:=he 0 _ rfl;have h1_0:e.at 1=V.isl (a1.map Enc.enc):=he 1 _ rfl;have h2_0:e.at 2=V.isl (a2.map Enc.enc):=he 2 _ rfl;have hl_0:e.length=28:=hl;clear he hl;show W A b204 e ⟨[],0⟩ _;unfold F204 at hF;obtain⟨l,gl,hF⟩:=bS hF;obtain⟨x12,gx12,hF⟩:=bS hF;have hE:=wA hF; subst hE;have w13:tans A 133 [1,1] [V.int .i64 a0,V.isl (l.map Enc.enc)]=some (V.isl (x12.map Enc.enc)):=x133 a0 l gx12;simp only[simprocAttr, -Int.reduceNatCast',R0,b204, *];show W A (.block 0 (.loop false b204_1)) _ _ _;rw[qi];refine qr gl 1 rfl (fun i s e h=>∃u k:Nat,h=⟨[(u,some (s.map Enc.enc))],k⟩∧e.length=28∧e.at 0=V.int .i64 a0∧e.at 2=V.isl (a2.map Enc.enc)∧e.at 7=V.sl 0 u 0 s.length 1∧e.at 11=V.isl (a1.map Enc.enc)∧e.at 12=V.int .i64 (a1.length:Int)∧e.at 13=V.int .i64 i) ?_ ?_ ?_
 ·refine⟨_,_,rfl,?_⟩
  simp only[simprocAttr, -Int.reduceNatCast',R0, *]
 ·clear hl_0 h0_0 h1_0 h2_0
  rintro i s e h ⟨u,k,rfl,hl_1,h0_1,h2_1,h7_1,h11_1,h12_1,h13_1⟩ hlt hw o ho;unfold F204_1_B at ho;obtain⟨x5,gx5,ho⟩:=bS ho;obtain⟨w6a,w6b⟩:=ql gx5;obtain⟨x7,gx7,ho⟩:=bS ho;have w8:=s205 a0 x5 a2 gx7;obtain⟨l10,gl10,ho⟩:=bS ho;have w9:=fun ents key uid clk he=> qC (α:=List Int) (n:=s.length) (m:=1) (ds:=[V.isl (x7.map Enc.enc)]) gl10 (by first|rfl|simp only[wU]) (by first|rfl|simp only[wU]) rfl ents key uid clk he;have w9l:=qM gl10;have hE:=wA ho; subst hE;simp only[simprocAttr, -Int.reduceNatCast',R0,b204_1, *];refine ai rfl (ei _ (ei _ (ai rfl ?_)));simp only[simprocAttr, -Int.reduceNatCast',R0, *]
 ·clear hl_0 h0_0 h1_0 h2_0
  rintro i s e h ⟨u,k,rfl,hl_1,h0_1,h2_1,h7_1,h11_1,h12_1,h13_1⟩ hge t1 ho;unfold F204_1_D at ho;have hE:=wA ho; subst hE;simp only[simprocAttr, -Int.reduceNatCast',R0,b204_1, *];intro ht; subst ht;obtain⟨v,⟨E1,c1⟩,K,t1,t2,t3,t4,t5⟩:=thawD (α:=List (List Int)) (by decide) x12 ⟨[(u,some (s.map Enc.enc))],k⟩;have t1':thaw 16 [1,1] (V.isl (x12.map Enc.enc)) ⟨[(u,some (s.map Enc.enc))],k⟩=some (v,⟨E1,c1⟩):=t1;have wbr:bare 16 [1,1] (V.isl (x12.map Enc.enc))=true:=Deep.br (α:=List (List Int)) x12 10 [];simp only[simprocAttr, -Int.reduceNatCast',R0,frzs (α:=List Int) s,qO (α:=List Int) s,ze,t1', *];refine ai (fun _=> trivial) ⟨v,?_,K,t2⟩;simp only[simprocAttr, -Int.reduceNatCast',R0,qe,p204,Rs.ev, *]
theorem x204(a0:Int)(a1:List (List Int))(a2:List (List Int)){r:List (List Int)}(hF:F204 a0 a1 a2=some r):tans A 204 [1,1] [V.int .i64 a0,V.isl (a1.map Enc.enc),V.isl (a2.map Enc.enc)]=some (Enc.enc r):=tans_of_deep (α:=List (List Int)) (by decide) (d204 a0 a1 a2 hF)
def F187(a0:qc)(a1:Int)(a2:Int)(a3:Int):Option (List (List Int)):=
 (F184 a0 a1 a2 a3).bind fun x1=>
 (F185 a0 a1 a2 a3).bind fun x3=>
 (F204 a0.Complex.Prime x1 x3).bind fun x5=>
 some x5
theorem d187(a0:qc)(a1 a2 a3:Int){r:List (List Int)}(hF:F187 a0 a1 a2 a3=some r):∃v h',res A 187 [(eF a0),V.int .i64 a1,V.int .i64 a2,V.int .i64 a3] Heap.empty=some (v,h')∧∃K,Deep.rep h' v r K:=by
 refine res_dp (f:=p187) rfl rfl rfl fun e hl he=>?_;have h0_0:e.at 0=(eF a0):=he 0 _ rfl;have h1_0:e.at 1=V.int .i64 a1:=he 1 _ rfl;have h2_0:e.at 2=V.int .i64 a2:=he 2 _ rfl;have h3_0:e.at 3=V.int .i64 a3:=he 3 _ rfl;have hl_0:e.length=23:=hl;clear he hl;show W A b187 e ⟨[],0⟩ _;unfold F187 at hF;obtain⟨x1,gx1,hF⟩:=bS hF;have w2:=s184 a0 a1 a2 a3 gx1;obtain⟨x3,gx3,hF⟩:=bS hF;have w4:=s185 a0 a1 a2 a3 gx3;obtain⟨x5,gx5,hF⟩:=bS hF;have w6:tans A 204 [1,1] [V.int .i64 a0.Complex.Prime,V.isl (x1.map Enc.enc),V.isl (x3.map Enc.enc)]=some (V.isl (x5.map Enc.enc)):=x204 a0.Complex.Prime x1 x3 gx5;have hE:=wA hF; subst hE;obtain⟨v,⟨E1,c1⟩,K,t1,t2,t3,t4,t5⟩:=thawD (α:=List (List Int)) (by decide) x5 ⟨[(0,none)],1⟩;have t1':thaw 16 [1,1] (V.isl (x5.map Enc.enc)) ⟨[(0,none)],1⟩=some (v,⟨E1,c1⟩):=t1;simp only[simprocAttr, -Int.reduceNatCast',R0,b187,ze,t1', *];refine ai (fun _=> trivial) ⟨v,?_,K,t2⟩;simp only[simprocAttr, -Int.reduceNatCast',R0,qe,p187,Rs.ev, *]
theorem s187(a0:qc)(a1 a2 a3:Int){r:List (List Int)}(hF:F187 a0 a1 a2 a3=some r):ans A 187 [(eF a0),V.int .i64 a1,V.int .i64 a2,V.int .i64 a3]=some (Enc.enc r):=ans_of_deep (α:=List (List Int)) (by decide) (d187 a0 a1 a2 a3 hF)
def F188_1_B(x1:List Int)(x3:List Int)(v20_1:Int)(o0_1:(List Int)):Option (((List Int))⊕((List Int))):=
 (getI x3 v20_1).bind fun x9=>
(getI x1 x9).bind fun x11=>
(app 8 o0_1 [x11]).bind fun l14=>
some (.inl l14)
def F188_1_D(x1:List Int)(x3:List Int)(v20_1:Int)(o0_1:(List Int)):Option ((List Int)):=
 some o0_1
def F188(a0:Int)(a1:List Int)(a2:List (List Int))(a3:List (List Int)):Option (List Int):=
 (F205 a0 a1 a3).bind fun x1=>
 (F101 a2).bind fun x3=>
 (forR 0 (x3.length:Int) (F188_1_B x1 x3) (F188_1_D x1 x3) ([]:(List Int))).bind fun zo0_1=>
 some zo0_1
def I188_1(x1:List Int)(x3:List Int)(v20_1:Int)(o0_1:(List Int))(e:Env)(h:Heap):Prop:=
 ∃u6 k7:Nat,h=⟨[(u6,some (o0_1.map Enc.enc))],k7⟩∧e.length=33∧e.at 1=V.isl (x1.map Enc.enc)∧e.at 9=V.sl 0 u6 0 o0_1.length 1∧e.at 18=V.isl (x3.map Enc.enc)∧e.at 19=V.int .i64 (x3.length:Int)∧e.at 20=V.int .i64 v20_1
def P188_1(x1:List Int)(x3:List Int)(zo0_1:(List Int))(x:Ex)(e:Env)(h:Heap):Prop:=
 x= .normal∧∃u6 k7:Nat,h=⟨[(u6,some (zo0_1.map Enc.enc))],k7⟩∧e.length=33∧e.at 9=V.sl 0 u6 0 zo0_1.length 1
theorem l188_1(x1:List Int)(x3:List Int){lo:Int}{s:(List Int)}{t:(List Int)}(hF:forR lo (x3.length:Int) (F188_1_B x1 x3) (F188_1_D x1 x3) s=some t){e:Env}{h:Heap}(hI:I188_1 x1 x3 lo s e h):W A c188_1 e h (P188_1 x1 x3 t):=by
 show W A (.block 0 (.loop false b188_1)) e h _;rw[qi];refine qr hF 1 (by obtain⟨_,_,rfl,_⟩:=hI; rfl) (I188_1 x1 x3) hI ?_ ?_
 ·rintro v20_1 o0_1 e h ⟨u6,k7,rfl,h_5⟩ hlt hw o ho
  unfold F188_1_B at ho;obtain⟨x9,gx9,ho⟩:=bS ho;obtain⟨w10a,w10b⟩:=ql gx9;obtain⟨x11,gx11,ho⟩:=bS ho;obtain⟨w12a,w12b⟩:=ql gx11;obtain⟨l14,gl14,ho⟩:=bS ho;have w13:=fun a b c d e=> qC (α:=Int) (n:=o0_1.length) (m:=1) (ds:=[V.int .i64 x11]) gl14 (by first|rfl|simp) (by first|rfl|simp) rfl a b c d e;have w13l:=qM gl14;cases ho;simp only[simprocAttr,R0,b188_1, *];refine ai rfl (ei _ (ei _ (ai rfl ?_)));simp only[simprocAttr,R0, *]
 ·rintro v20_1 o0_1 e h ⟨u6,k7,rfl,h_5⟩ hge t1 ho
  unfold F188_1_D at ho;cases ho;simp only[simprocAttr,R0,b188_1, *];intro ht; subst ht;refine ai rfl (ei _ (ei _ (ai rfl ?_)));simp only[simprocAttr,R0, *]
theorem t188(a0:Int)(a1:List Int)(a2:List (List Int))(a3:List (List Int)){r:List Int}(hF:F188 a0 a1 a2 a3=some r):tans A 188 [1] [V.int .i64 a0,V.isl (a1.map Enc.enc),V.isl (a2.map Enc.enc),V.isl (a3.map Enc.enc)]=some (Enc.enc r):=by
 refine tans_of (f:=p188) rfl rfl rfl fun e hl he=>?_;have h0_0:e.at 0=V.int .i64 a0:=he 0 _ rfl;have h1_0:e.at 1=V.isl (a1.map Enc.enc):=he 1 _ rfl;have h2_0:e.at 2=V.isl (a2.map Enc.enc):=he 2 _ rfl;have h3_0:e.at 3=V.isl (a3.map Enc.enc):=he 3 _ rfl;have hl_0:e.length=33:=hl;clear he hl;show W A b188 e ⟨[],0⟩ _;unfold F188 at hF;obtain⟨x1,gx1,hF⟩:=bS hF;have w2:=s205 a0 a1 a3 gx1;obtain⟨x3,gx3,hF⟩:=bS hF;have w4:=s101 a2 gx3;obtain⟨zo0_1,gt15,hF⟩:=bS hF;simp only[simprocAttr, -Int.reduceNatCast',R0,b188, *];refine W.mono (l188_1 x1 x3 gt15 (ei _ (ei _ (ai rfl ?_)))) ?_
 ·simp only[simprocAttr, -Int.reduceNatCast',R0, *]
 rintro _ e _ ⟨rfl,u6,k7,rfl,hl_8,h9_8⟩;have hE:=wA hF; subst hE;simp only[simprocAttr, -Int.reduceNatCast',R0, *];exact jd (by simp only[simprocAttr, -Int.reduceNatCast',R0,qe,p188,Rs.ev,qa,frzs (α:=Int) zo0_1,qO (α:=Int) zo0_1, *])
def F256_1_B(a2:List Int)(x3:List Int)(v15_1:Int)(o2_1:(List Int)):Option (((List Int))⊕((List Int))):=
 (getI x3 v15_1).bind fun x8=>
(getI a2 v15_1).bind fun x10=>
(ixI 8 x8).bind fun n12=>
(some (arW 8 o2_1 n12 (Go.IntKind.wrap .u8 x10))).bind fun l14=>
some (.inl l14)
def F256_1_D(a2:List Int)(x3:List Int)(v15_1:Int)(o2_1:(List Int)):Option ((List Int)):=
 some o2_1
def F256(a0:GDga)(a1:Int)(a2:List Int):Option (Ar .u8 8):=
 (F72 a0 a1).bind fun x3=>
 (forR 0 (x3.length:Int) (F256_1_B a2 x3) (F256_1_D a2 x3) ([]:(List Int))).bind fun zo2_1=>
 some ⟨zo2_1⟩
def I256_1(a2:List Int)(x3:List Int)(v15_1:Int)(o2_1:(List Int))(e:Env)(h:Heap):Prop:=
 ∃k6:Nat,h=⟨[(0,none),(1,some (arc .u8 8 [])),(2,some (arc .u8 8 o2_1))],k6⟩∧e.length=29∧e.at 2=V.isl (a2.map Enc.enc)∧e.at 6=V.ptr 1 1 0∧e.at 7=V.ptr 2 2 0∧e.at 13=V.isl (x3.map Enc.enc)∧e.at 14=V.int .i64 (x3.length:Int)∧e.at 15=V.int .i64 v15_1
def P256_1(a2:List Int)(x3:List Int)(zo2_1:(List Int))(x:Ex)(e:Env)(h:Heap):Prop:=
 x= .normal∧∃k6:Nat,h=⟨[(0,none),(1,some (arc .u8 8 [])),(2,some (arc .u8 8 zo2_1))],k6⟩∧e.length=29∧e.at 6=V.ptr 1 1 0∧e.at 7=V.ptr 2 2 0
theorem l256_1(a2:List Int)(x3:List Int){lo:Int}{s:(List Int)}{t:(List Int)}(hF:forR lo (x3.length:Int) (F256_1_B a2 x3) (F256_1_D a2 x3) s=some t){e:Env}{h:Heap}(hI:I256_1 a2 x3 lo s e h):W A c256_1 e h (P256_1 a2 x3 t):=by
 show W A (.block 0 (.loop false b256_1)) e h _;rw[qi];refine qr hF 3 (by obtain⟨_,rfl,_⟩:=hI; rfl) (I256_1 a2 x3) hI ?_ ?_
 ·rintro v15_1 o2_1 e h ⟨k6,rfl,h_5⟩ hlt hw o ho
  unfold F256_1_B at ho;obtain⟨x8,gx8,ho⟩:=bS ho;obtain⟨w9a,w9b⟩:=ql gx8;obtain⟨x10,gx10,ho⟩:=bS ho;obtain⟨w11a,w11b⟩:=ql gx10;obtain⟨n12,gn12,ho⟩:=bS ho;obtain⟨w13a,w13b,w13c,w13d⟩:=qU gn12;obtain⟨l14,gl14,ho⟩:=bS ho;have w15:List.take n12 (arc .u8 8 o2_1)++[V.int .u8 (Go.IntKind.wrap .u8 x10)]++List.drop (n12+1) (arc .u8 8 o2_1)=arc .u8 8 l14:=by rw[←wA gl14]; exact arc_set (by omega)
  have w15l:n12+1≤8:=by omega
  cases ho;simp only[simprocAttr, -Int.reduceNatCast',R0,b256_1, *];refine ai rfl (ei _ (ai rfl ?_));simp only[simprocAttr, -Int.reduceNatCast',R0, *]
 ·rintro v15_1 o2_1 e h ⟨k6,rfl,h_5⟩ hge t1 ho
  unfold F256_1_D at ho;cases ho;simp only[simprocAttr, -Int.reduceNatCast',R0,b256_1, *];intro ht; subst ht;refine ai rfl (ei _ (ai rfl ?_));simp only[simprocAttr, -Int.reduceNatCast',R0, *]
theorem s256(a0:GDga)(a1:Int)(a2:List Int){r:Ar .u8 8}(hF:F256 a0 a1 a2=some r):ans A 256 [V.agg (qb a0),V.int .i64 a1,V.isl (a2.map Enc.enc)]=some (Enc.enc r):=by
 refine qu (f:=p256) rfl rfl rfl fun e hl he=>?_;have h0_0:e.at 0=V.agg (qb a0):=he 0 _ rfl;have h1_0:e.at 1=V.int .i64 a1:=he 1 _ rfl;have h2_0:e.at 2=V.isl (a2.map Enc.enc):=he 2 _ rfl;have hl_0:e.length=29:=hl;clear he hl;show W A b256 e ⟨[],0⟩ _;unfold F256 at hF;have w2:List.drop 8 (arc .u8 8 [])=[]:=wI (by rw[qj]; exact wG _);obtain⟨x3,gx3,hF⟩:=bS hF;have w4:=s72 a0 a1 gx3;obtain⟨zo2_1,gt16,hF⟩:=bS hF;simp only[simprocAttr,R0,b256,wB, *];refine W.mono (l256_1 a2 x3 gt16 (ei _ (ai rfl ?_))) ?_
 ·simp only[simprocAttr,R0,wB, *]
 rintro _ e _ ⟨rfl,k6,rfl,h_7⟩;have w19:List.drop 8 (arc .u8 8 [])=[]:=wI (by rw[qj]; exact wG _);cases hF;simp only[simprocAttr,R0,wB, *];exact qd (by simp only[simprocAttr,R0,qe,p256,Rs.ev,qa,wB, *])
def F257_1_B(a2:Ar .u8 8)(x1:List Int)(v15_1:Int)(o2_1:(List Int)):Option (((List Int))⊕((List Int))):=
 (getI x1 v15_1).bind fun x7=>
(ixI 8 x7).bind fun n9=>
(chk (a2.val.getD n9 0)).bind fun x12=>
(app 8 o2_1 [x12]).bind fun l14=>
some (.inl l14)
def F257_1_D(a2:Ar .u8 8)(x1:List Int)(v15_1:Int)(o2_1:(List Int)):Option ((List Int)):=
 some o2_1
def F257(a0:GDga)(a1:Int)(a2:Ar .u8 8):Option (List Int):=
 (F72 a0 a1).bind fun x1=>
 (forR 0 (x1.length:Int) (F257_1_B a2 x1) (F257_1_D a2 x1) ([]:(List Int))).bind fun zo2_1=>
 some zo2_1
def I257_1(a2:Ar .u8 8)(x1:List Int)(v15_1:Int)(o2_1:(List Int))(e:Env)(h:Heap):Prop:=
 ∃u4 k5:Nat,h=⟨[(0,none),(0,none),(u4,some (o2_1.map Enc.enc))],k5⟩∧e.length=28∧e.at 5=V.iptr (arc .u8 8 a2.val)∧e.at 7=V.sl 2 u4 0 o2_1.length 1∧e.at 13=V.isl (x1.map Enc.enc)∧e.at 14=V.int .i64 (x1.length:Int)∧e.at 15=V.int .i64 v15_1
def P257_1(a2:Ar .u8 8)(x1:List Int)(zo2_1:(List Int))(x:Ex)(e:Env)(h:Heap):Prop:=
 x= .normal∧∃u4 k5:Nat,h=⟨[(0,none),(0,none),(u4,some (zo2_1.map Enc.enc))],k5⟩∧e.length=28∧e.at 7=V.sl 2 u4 0 zo2_1.length 1
theorem l257_1(a2:Ar .u8 8)(x1:List Int){lo:Int}{s:(List Int)}{t:(List Int)}(hF:forR lo (x1.length:Int) (F257_1_B a2 x1) (F257_1_D a2 x1) s=some t){e:Env}{h:Heap}(hI:I257_1 a2 x1 lo s e h):W A c257_1 e h (P257_1 a2 x1 t):=by
 show W A (.block 0 (.loop false b257_1)) e h _;rw[qi];refine qr hF 3 (by obtain⟨_,_,rfl,_⟩:=hI; rfl) (I257_1 a2 x1) hI ?_ ?_
 ·rintro v15_1 o2_1 e h ⟨u4,k5,rfl,h_3⟩ hlt hw o ho
  unfold F257_1_B at ho;obtain⟨x7,gx7,ho⟩:=bS ho;obtain⟨w8a,w8b⟩:=ql gx7;obtain⟨n9,gn9,ho⟩:=bS ho;obtain⟨w10a,w10b,w10c,w10d⟩:=qU gn9;have w11:qf none (List.drop n9 (arc .u8 8 a2.val))=some (V.int .u8 (a2.val.getD n9 0)):=zo (i:=n9) (by omega) (by omega);obtain⟨x12,gx12,ho⟩:=bS ho;have wx12:=qx gx12;obtain⟨l14,gl14,ho⟩:=bS ho;have w13:=fun a b c d e=> qC (α:=Int) (n:=o2_1.length) (m:=1) (ds:=[V.int .i64 x12]) gl14 (by first|rfl|simp) (by first|rfl|simp) rfl a b c d e;have w13l:=qM gl14;cases ho;simp only[simprocAttr, -Int.reduceNatCast',R0,b257_1, *];refine ai rfl (ei _ (ei _ (ai rfl ?_)));simp only[simprocAttr, -Int.reduceNatCast',R0, *]
 ·rintro v15_1 o2_1 e h ⟨u4,k5,rfl,h_3⟩ hge t1 ho
  unfold F257_1_D at ho;cases ho;simp only[simprocAttr, -Int.reduceNatCast',R0,b257_1, *];intro ht; subst ht;refine ai rfl (ei _ (ei _ (ai rfl ?_)));simp only[simprocAttr, -Int.reduceNatCast',R0, *]
theorem s257(a0:GDga)(a1:Int)(a2:Ar .u8 8){r:List Int}(hF:F257 a0 a1 a2=some r):ans A 257 [V.agg (qb a0),V.int .i64 a1,V.agg (arc .u8 8 a2.val)]=some (Enc.enc r):=by
 refine qu (f:=p257) rfl rfl rfl fun e hl he=>?_;have h0_0:e.at 0=V.agg (qb a0):=he 0 _ rfl;have h1_0:e.at 1=V.int .i64 a1:=he 1 _ rfl;have h2_0:e.at 2=V.agg (arc .u8 8 a2.val):=he 2 _ rfl;have hl_0:e.length=28:=hl;clear he hl;show W A b257 e ⟨[],0⟩ _;unfold F257 at hF;obtain⟨x1,gx1,hF⟩:=bS hF;have w2:=s72 a0 a1 gx1;obtain⟨zo2_1,gt15,hF⟩:=bS hF;simp only[simprocAttr, -Int.reduceNatCast',R0,b257, *];refine W.mono (l257_1 a2 x1 gt15 (ei _ (ei _ (ai rfl ?_)))) ?_
 ·simp only[simprocAttr, -Int.reduceNatCast',R0, *]
 rintro _ e _ ⟨rfl,u4,k5,rfl,hl_6,h7_6⟩;have hE:=wA hF; subst hE;simp only[simprocAttr, -Int.reduceNatCast',R0, *];exact qd (by simp only[simprocAttr, -Int.reduceNatCast',R0,qe,p257,Rs.ev,qa,frzs (α:=Int) zo2_1,qO (α:=Int) zo2_1, *])
def F365(a0:GDga)(a1:Int)(a2:Int)(a3:Int)(a4:Int)(a5:Int)(a6:Int)(a7:Int):Option (T2 (List Int) Int):=
 (F157 a0).bind fun x1=>
 if x1=true then
  (F36 a0).bind fun x3=>
  (F166 x3 a1 a2 a3).bind fun x5=>
  if x5=0 then
   (F166 x3 a1 a5 a6).bind fun x8=>
   if x8=0 then
    (chk (a3+a6)).bind fun x11=>
    if 5 < x11 then
     some ⟨([]:List Int),2⟩
    else
     (F187 x3 a1 a2 a3).bind fun x13=>
     (F187 x3 a1 a5 a6).bind fun x15=>
     (chk ((x13.length:Int) - 1)).bind fun x19=>
     (F56 a4 0 x19).bind fun x20=>
     if x20=true then
      (chk ((x15.length:Int) - 1)).bind fun x24=>
      (F56 a7 0 x24).bind fun x25=>
      if x25=true then
       (chk (a2+a5)).bind fun x27=>
       (F86 x3.Complex).bind fun x28=>
       if x28 < x27 then
        some ⟨([]:List Int),0⟩
       else
        (getI x13 a4).bind fun x31=>
        (F256 a0 a2 x31).bind fun x33=>
        (getI x15 a7).bind fun x35=>
        (F256 a0 a5 x35).bind fun x37=>
        (F177 a0 x33 x37).bind fun x39=>
        (F257 a0 x27 x39).bind fun x41=>
        (F187 x3 a1 x27 x11).bind fun x44=>
        (F185 x3 a1 x27 x11).bind fun x46=>
        (F188 a0.Prime x41 x44 x46).bind fun x48=>
        some ⟨x48,0⟩
      else
       some ⟨([]:List Int),2⟩
     else
      some ⟨([]:List Int),2⟩
   else
    some ⟨([]:List Int),2⟩
  else
   some ⟨([]:List Int),2⟩
 else
  some ⟨([]:List Int),1⟩
set_option maxHeartbeats 8000000 in
theorem s365(a0:GDga)(a1:Int)(a2:Int)(a3:Int)(a4:Int)(a5:Int)(a6:Int)(a7:Int){r:T2 (List Int) Int}(hF:F365 a0 a1 a2 a3 a4 a5 a6 a7=some r):ans A 365 [V.agg (qb a0),V.int .i64 a1,V.int .i64 a2,V.int .i64 a3,V.int .i64 a4,V.int .i64 a5,V.int .i64 a6,V.int .i64 a7]=some (EncR.enc r):=by
 refine qu (f:=p365) rfl rfl rfl fun e hl he=>?_;have h0_0:e.at 0=V.agg (qb a0):=he 0 _ rfl;have h1_0:e.at 1=V.int .i64 a1:=he 1 _ rfl;have h2_0:e.at 2=V.int .i64 a2:=he 2 _ rfl;have h3_0:e.at 3=V.int .i64 a3:=he 3 _ rfl;have h4_0:e.at 4=V.int .i64 a4:=he 4 _ rfl;have h5_0:e.at 5=V.int .i64 a5:=he 5 _ rfl;have h6_0:e.at 6=V.int .i64 a6:=he 6 _ rfl;have h7_0:e.at 7=V.int .i64 a7:=he 7 _ rfl;have hl_0:e.length=123:=hl;clear he hl;have h_0:=ai hl_0 (ai h0_0 (ai h1_0 (ai h2_0 (ai h3_0 (ai h4_0 (ai h5_0 (ai h6_0 h7_0)))))));show W A b365 e ⟨[],0⟩ _;unfold F365 at hF;obtain⟨x1,gx1,hF⟩:=bS hF;have w2:=s157 a0 gx1;cases x1 with
 |true=>
  rw[if_pos rfl]at hF;obtain⟨x3,gx3,hF⟩:=bS hF;have w4:=s36 a0 gx3;obtain⟨x5,gx5,hF⟩:=bS hF;have w6:=s166 x3 a1 a2 a3 gx5;by_cases c7:x5=0
  ·rw[if_pos c7]at hF
   obtain⟨x8,gx8,hF⟩:=bS hF;have w9:=s166 x3 a1 a5 a6 gx8;by_cases c10:x8=0
   ·rw[if_pos c10]at hF
    obtain⟨x11,gx11,hF⟩:=bS hF;have wx11:=qx gx11;by_cases c12:5 < x11
    ·rw[if_pos c12]at hF
     cases hF;simp only[simprocAttr,R0,b365, *];exact qd (by simp only[simprocAttr,R0,qe,p365,Rs.ev,qa, *])
    ·rw[if_neg c12]at hF
     obtain⟨x13,gx13,hF⟩:=bS hF;have w14:=s187 x3 a1 a2 a3 gx13;obtain⟨x15,gx15,hF⟩:=bS hF;have w16:=s187 x3 a1 a5 a6 gx15;have w18:=s89 x13 rfl;obtain⟨x19,gx19,hF⟩:=bS hF;have wx19:=qx gx19;obtain⟨x20,gx20,hF⟩:=bS hF;have w21:=s56 a4 0 x19 gx20;cases x20 with
     |true=>
      rw[if_pos rfl]at hF;have w23:=s89 x15 rfl;obtain⟨x24,gx24,hF⟩:=bS hF;have wx24:=qx gx24;obtain⟨x25,gx25,hF⟩:=bS hF;have w26:=s56 a7 0 x24 gx25;cases x25 with
      |true=>
       rw[if_pos rfl]at hF;obtain⟨x27,gx27,hF⟩:=bS hF;have wx27:=qx gx27;obtain⟨x28,gx28,hF⟩:=bS hF;have w29:=s86 x3.Complex gx28;by_cases c30:x28 < x27
       ·rw[if_pos c30]at hF
        cases hF;simp only[simprocAttr,R0,b365, *];exact qd (by simp only[simprocAttr,R0,qe,p365,Rs.ev,qa, *])
       ·rw[if_neg c30]at hF
        obtain⟨x31,gx31,hF⟩:=bS hF;obtain⟨w32a,w32b⟩:=ql gx31;obtain⟨x33,gx33,hF⟩:=bS hF;have w34:=s256 a0 a2 x31 gx33;obtain⟨x35,gx35,hF⟩:=bS hF;obtain⟨w36a,w36b⟩:=ql gx35;obtain⟨x37,gx37,hF⟩:=bS hF;have w38:=s256 a0 a5 x35 gx37;obtain⟨x39,gx39,hF⟩:=bS hF;have w40:=s177 a0 x33 x37 gx39;obtain⟨x41,gx41,hF⟩:=bS hF;have w42:=s257 a0 x27 x39 gx41;have w43:qf none (qb a0)=some (V.int .i64 a0.Prime):=qA (a:=0) rfl;obtain⟨x44,gx44,hF⟩:=bS hF;have w45:=s187 x3 a1 x27 x11 gx44;obtain⟨x46,gx46,hF⟩:=bS hF;have w47:=s185 x3 a1 x27 x11 gx46;obtain⟨x48,gx48,hF⟩:=bS hF;have w49:tans A 188 [1] [V.int .i64 a0.Prime,V.isl (x41.map Enc.enc),V.isl (x44.map Enc.enc),V.isl (x46.map Enc.enc)]=some (V.isl (x48.map Enc.enc)):=t188 a0.Prime x41 x44 x46 gx48;have w49t:=zt (α:=Int) x48;cases hF;simp only[simprocAttr,R0,b365, *];exact qd (by simp only[simprocAttr,R0,qe,p365,Rs.ev,qa,frzs (α:=Int) x48,qO (α:=Int) x48, *])
      |false=>
       rw[if_neg wC]at hF;cases hF;simp only[simprocAttr,R0,b365, *];exact qd (by simp only[simprocAttr,R0,qe,p365,Rs.ev,qa, *])
     |false=>
      rw[if_neg wC]at hF;cases hF;simp only[simprocAttr,R0,b365, *];exact qd (by simp only[simprocAttr,R0,qe,p365,Rs.ev,qa, *])
   ·rw[if_neg c10]at hF
    cases hF;simp only[simprocAttr,R0,b365, *];exact qd (by simp only[simprocAttr,R0,qe,p365,Rs.ev,qa, *])
  ·rw[if_neg c7]at hF
   cases hF;simp only[simprocAttr,R0,b365, *];exact qd (by simp only[simprocAttr,R0,qe,p365,Rs.ev,qa, *])
 |false=>
  rw[if_neg wC]at hF;cases hF;simp only[simprocAttr,R0,b365, *];exact qd (by simp only[simprocAttr,R0,qe,p365,Rs.ev,qa, *])
set_option maxHeartbeats 8000000 in
theorem t365(a0:GDga)(a1:Int)(a2:Int)(a3:Int)(a4:Int)(a5:Int)(a6:Int)(a7:Int){r:T2 (List Int) Int}(hF:F365 a0 a1 a2 a3 a4 a5 a6 a7=some r):tans A 365 [1] [V.agg (qb a0),V.int .i64 a1,V.int .i64 a2,V.int .i64 a3,V.int .i64 a4,V.int .i64 a5,V.int .i64 a6,V.int .i64 a7]=some (EncR.enc r):=by
 refine tans_of (f:=p365) rfl rfl rfl fun e hl he=>?_;have h0_0:e.at 0=V.agg (qb a0):=he 0 _ rfl;have h1_0:e.at 1=V.int .i64 a1:=he 1 _ rfl;have h2_0:e.at 2=V.int .i64 a2:=he 2 _ rfl;have h3_0:e.at 3=V.int .i64 a3:=he 3 _ rfl;have h4_0:e.at 4=V.int .i64 a4:=he 4 _ rfl;have h5_0:e.at 5=V.int .i64 a5:=he 5 _ rfl;have h6_0:e.at 6=V.int .i64 a6:=he 6 _ rfl;have h7_0:e.at 7=V.int .i64 a7:=he 7 _ rfl;have hl_0:e.length=123:=hl;clear he hl;have h_0:=ai hl_0 (ai h0_0 (ai h1_0 (ai h2_0 (ai h3_0 (ai h4_0 (ai h5_0 (ai h6_0 h7_0)))))));show W A b365 e ⟨[],0⟩ _;unfold F365 at hF;obtain⟨x1,gx1,hF⟩:=bS hF;have w2:=s157 a0 gx1;cases x1 with
 |true=>
  rw[if_pos rfl]at hF;obtain⟨x3,gx3,hF⟩:=bS hF;have w4:=s36 a0 gx3;obtain⟨x5,gx5,hF⟩:=bS hF;have w6:=s166 x3 a1 a2 a3 gx5;by_cases c7:x5=0
  ·rw[if_pos c7]at hF
   obtain⟨x8,gx8,hF⟩:=bS hF;have w9:=s166 x3 a1 a5 a6 gx8;by_cases c10:x8=0
   ·rw[if_pos c10]at hF
    obtain⟨x11,gx11,hF⟩:=bS hF;have wx11:=qx gx11;by_cases c12:5 < x11
    ·rw[if_pos c12]at hF
     cases hF;simp only[simprocAttr,R0,b365, *];exact jd (by simp only[simprocAttr,R0,qe,p365,Rs.ev,qa, *])
    ·rw[if_neg c12]at hF
     obtain⟨x13,gx13,hF⟩:=bS hF;have w14:=s187 x3 a1 a2 a3 gx13;obtain⟨x15,gx15,hF⟩:=bS hF;have w16:=s187 x3 a1 a5 a6 gx15;have w18:=s89 x13 rfl;obtain⟨x19,gx19,hF⟩:=bS hF;have wx19:=qx gx19;obtain⟨x20,gx20,hF⟩:=bS hF;have w21:=s56 a4 0 x19 gx20;cases x20 with
     |true=>
      rw[if_pos rfl]at hF;have w23:=s89 x15 rfl;obtain⟨x24,gx24,hF⟩:=bS hF;have wx24:=qx gx24;obtain⟨x25,gx25,hF⟩:=bS hF;have w26:=s56 a7 0 x24 gx25;cases x25 with
      |true=>
       rw[if_pos rfl]at hF;obtain⟨x27,gx27,hF⟩:=bS hF;have wx27:=qx gx27;obtain⟨x28,gx28,hF⟩:=bS hF;have w29:=s86 x3.Complex gx28;by_cases c30:x28 < x27
       ·rw[if_pos c30]at hF
        cases hF;simp only[simprocAttr,R0,b365, *];exact jd (by simp only[simprocAttr,R0,qe,p365,Rs.ev,qa, *])
       ·rw[if_neg c30]at hF
        obtain⟨x31,gx31,hF⟩:=bS hF;obtain⟨w32a,w32b⟩:=ql gx31;obtain⟨x33,gx33,hF⟩:=bS hF;have w34:=s256 a0 a2 x31 gx33;obtain⟨x35,gx35,hF⟩:=bS hF;obtain⟨w36a,w36b⟩:=ql gx35;obtain⟨x37,gx37,hF⟩:=bS hF;have w38:=s256 a0 a5 x35 gx37;obtain⟨x39,gx39,hF⟩:=bS hF;have w40:=s177 a0 x33 x37 gx39;obtain⟨x41,gx41,hF⟩:=bS hF;have w42:=s257 a0 x27 x39 gx41;have w43:qf none (qb a0)=some (V.int .i64 a0.Prime):=qA (a:=0) rfl;obtain⟨x44,gx44,hF⟩:=bS hF;have w45:=s187 x3 a1 x27 x11 gx44;obtain⟨x46,gx46,hF⟩:=bS hF;have w47:=s185 x3 a1 x27 x11 gx46;obtain⟨x48,gx48,hF⟩:=bS hF;have w49:tans A 188 [1] [V.int .i64 a0.Prime,V.isl (x41.map Enc.enc),V.isl (x44.map Enc.enc),V.isl (x46.map Enc.enc)]=some (V.isl (x48.map Enc.enc)):=t188 a0.Prime x41 x44 x46 gx48;have w49t:=zt (α:=Int) x48;cases hF;simp only[simprocAttr,R0,b365, *];exact jd (by simp only[simprocAttr,R0,qe,p365,Rs.ev,qa,frzs (α:=Int) x48,qO (α:=Int) x48, *])
      |false=>
       rw[if_neg wC]at hF;cases hF;simp only[simprocAttr,R0,b365, *];exact jd (by simp only[simprocAttr,R0,qe,p365,Rs.ev,qa, *])
     |false=>
      rw[if_neg wC]at hF;cases hF;simp only[simprocAttr,R0,b365, *];exact jd (by simp only[simprocAttr,R0,qe,p365,Rs.ev,qa, *])
   ·rw[if_neg c10]at hF
    cases hF;simp only[simprocAttr,R0,b365, *];exact jd (by simp only[simprocAttr,R0,qe,p365,Rs.ev,qa, *])
  ·rw[if_neg c7]at hF
   cases hF;simp only[simprocAttr,R0,b365, *];exact jd (by simp only[simprocAttr,R0,qe,p365,Rs.ev,qa, *])
 |false=>
  rw[if_neg wC]at hF;cases hF;simp only[simprocAttr,R0,b365, *];exact jd (by simp only[simprocAttr,R0,qe,p365,Rs.ev,qa, *])
def L387(a0:GDga)(a1:Int)(a2:Int)(a3:Int)(a4:Int)(a5:Int)(a6:Int)(a7:Int):Prop:=
 (∃ (s0:GDga) (w:List Int) (cd:Int) (mg:List Int×Int),F229 a0=some s0∧F364 s0 a1 a2 a3 a4 a5 a6 a7=some ⟨w,cd⟩∧F365 s0 a1 a2 a3 a4 a5 a6 a7=some ⟨w,cd⟩∧F30 w w=some true∧FM31 w 1=some mg∧F32 mg.1 1=some mg.2∧¬mg.2 < 0)
theorem s387(a0:GDga)(a1:Int)(a2:Int)(a3:Int)(a4:Int)(a5:Int)(a6:Int)(a7:Int)(hF:L387 a0 a1 a2 a3 a4 a5 a6 a7):ans A 387 [V.agg (qb a0),V.int .i64 a1,V.int .i64 a2,V.int .i64 a3,V.int .i64 a4,V.int .i64 a5,V.int .i64 a6,V.int .i64 a7]=some (V.bool true):=by
 refine qu (f:=p387) rfl rfl rfl fun e hl he=>?_;have h0_0:e.at 0=V.agg (qb a0):=he 0 _ rfl;have h1_0:e.at 1=V.int .i64 a1:=he 1 _ rfl;have h2_0:e.at 2=V.int .i64 a2:=he 2 _ rfl;have h3_0:e.at 3=V.int .i64 a3:=he 3 _ rfl;have h4_0:e.at 4=V.int .i64 a4:=he 4 _ rfl;have h5_0:e.at 5=V.int .i64 a5:=he 5 _ rfl;have h6_0:e.at 6=V.int .i64 a6:=he 6 _ rfl;have h7_0:e.at 7=V.int .i64 a7:=he 7 _ rfl;have hl_0:e.length=101:=hl;clear he hl;show W A b387 e ⟨[],0⟩ _;rcases hF with⟨s0,w,cd,mg,t0,gs,gi,ge,gm,gh,cg⟩
 ·have u0:ans A 229 [V.agg (qb a0)]=some (V.agg (qb s0)):=s229 a0 t0
  have us:ans A 364 [V.agg (qb s0),V.int .i64 a1,V.int .i64 a2,V.int .i64 a3,V.int .i64 a4,V.int .i64 a5,V.int .i64 a6,V.int .i64 a7]=some (V.tup [V.isl (w.map Enc.enc),V.int .i64 cd]):=s364 s0 a1 a2 a3 a4 a5 a6 a7 gs;have ui:ans A 365 [V.agg (qb s0),V.int .i64 a1,V.int .i64 a2,V.int .i64 a3,V.int .i64 a4,V.int .i64 a5,V.int .i64 a6,V.int .i64 a7]=some (V.tup [V.isl (w.map Enc.enc),V.int .i64 cd]):=s365 s0 a1 a2 a3 a4 a5 a6 a7 gi;have xi:tans A 365 [1] [V.agg (qb s0),V.int .i64 a1,V.int .i64 a2,V.int .i64 a3,V.int .i64 a4,V.int .i64 a5,V.int .i64 a6,V.int .i64 a7]=some (V.tup [V.isl (w.map Enc.enc),V.int .i64 cd]):=t365 s0 a1 a2 a3 a4 a5 a6 a7 gi;have ue:ans A 30 [V.isl (w.map Enc.enc),V.isl (w.map Enc.enc)]=some (V.bool true):=s30 w w ge;have bw:bare 16 [1] (V.tup [V.isl (w.map Enc.enc),V.int .i64 cd])=true:=bare_tup (l:=[⟨w⟩,⟨cd⟩]) (fits_pair rfl (by decide));obtain⟨vg,⟨E_1,c_2⟩,K_3,t_5,r_4,b_6,le_7,o_8⟩:=thawP (α:=List Int) (s:=1) (ss:=[]) (by decide) w cd ⟨[(0,none)],1⟩;obtain⟨oneg,oneg_t⟩:=rep_one r_4;simp only[le1,wX,wU,vH,Nat.reduceAdd]at b_6 le_7 o_8;have t_5':thaw 16 [1] (V.tup [V.isl (w.map Enc.enc),V.int .i64 cd]) ⟨[(0,none)],1⟩=some (V.tup [vg,V.int .i64 cd],⟨E_1,c_2⟩):=t_5;have z_9:=Deep.fz r_4 11;have z_9':frz ⟨E_1,c_2⟩ 16 vg=some (V.isl (w.map Enc.enc)):=z_9;have z_10:=Deep.fz r_4 11;have z_10':frz ⟨E_1,c_2⟩ 16 vg=some (V.isl (w.map Enc.enc)):=z_10;obtain⟨⟨E_11,c_12⟩,w_13,r_14,o_16,le_15⟩:=dm31 gm _ r_4
  try simp only[le1]at o_16 le_15
  have z_17:=Deep.fz r_14 11;have z_17':frz ⟨E_11,c_12⟩ 16 vg=some (V.isl (List.map Enc.enc mg.1)):=z_17;have uh:ans A 32 [V.isl (List.map Enc.enc mg.1),V.int .i64 1]=some (V.int .i64 mg.2):=s32 mg.1 1 gh;simp only[simprocAttr,R0,b387,ze,zj,qR,set_last,le1,u0,us,ui,xi,ue,bw,oneg,oneg_t,t_5',z_9',z_10',z_17',uh,eq_false cg, *];exact qd (by simp only[simprocAttr,R0,qe,p387,Rs.ev,qa, *])
end
end Rv
