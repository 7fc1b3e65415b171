/- What the abstract code answers: typed functions, part 2. -/
import Derived.Test.YtgiabfngopkpmaaCss0
set_option maxHeartbeats 8000000
namespace Rv
open Enc (enc)
set_option linter.unusedVariables false
set_option linter.unusedSimpArgs false
set_option maxRecDepth 100000
noncomputable section
def F74_2_B(a1:List Int)(o1_1:List (List (List Int)))(q2_0_1:Int)(q2_1_1:List Int)(v6_1:Int)(x7:Int)(v22_2:Int)(o3_2:(List (List Int))):Option (((List (List Int)))⊕((List (List Int)))):=
 (chk (v6_1 - 1)).bind fun x13=>
(getI a1 x13).bind fun x14=>
(mkL 8 x14 0).bind fun l16=>
(app 24 o3_2 [l16]).bind fun l19=>
some (.inl l19)
def F74_2_D(a1:List Int)(o1_1:List (List (List Int)))(q2_0_1:Int)(q2_1_1:List Int)(v6_1:Int)(x7:Int)(v22_2:Int)(o3_2:(List (List Int))):Option ((List (List Int))):=
 some o3_2
def F74_1_B(a1:List Int)(v6_1:Int)(s:(List (List (List Int)))×Int×(List Int)):Option (((List (List (List Int)))×Int×(List Int))⊕((List (List (List Int)))×Int×(List Int))):=
 match s with
 |(o1_1,q2_0_1,q2_1_1)=>
  (getI a1 v6_1).bind fun x7=>
  (forR 0 x7 (F74_2_B a1 o1_1 q2_0_1 q2_1_1 v6_1 x7) (F74_2_D a1 o1_1 q2_0_1 q2_1_1 v6_1 x7) ([]:(List (List Int)))).bind fun zo3_2=>
  (app 24 o1_1 [zo3_2]).bind fun l22=>
  some (.inl (l22,q2_0_1,q2_1_1))
def F74_1_D(a1:List Int)(v6_1:Int)(s:(List (List (List Int)))×Int×(List Int)):Option ((List (List (List Int)))×Int×(List Int)):=
 match s with
 |(o1_1,q2_0_1,q2_1_1)=>
  some (o1_1,q2_0_1,q2_1_1)
def F74(a0:Int)(a1:List Int):Option qa:=
 (forR 1 (a1.length:Int) (F74_1_B a1) (F74_1_D a1) ([],a0,a1)).bind fun t25=> match t25 with
  |(zo1_1,zq2_0_1,zq2_1_1)=>
   some ⟨zq2_0_1,zq2_1_1,zo1_1⟩
theorem d74(a0:Int)(a1:List Int){r:qa}(hF:F74 a0 a1=some r)(E0:List (Nat×Option (List V)))(c0:Nat){dk du:Nat}(hd0:E0[dk]? =some (du,some (a1.map enc))):∃v h',res A 74 [V.int .i64 a0,V.sl dk du 0 a1.length 1] ⟨E0,c0⟩=some (v,h')∧r.Prime=a0∧r.Dims=a1∧∃m K,v=V.agg [V.int .i64 r.Prime,V.sl dk du 0 a1.length 1,m]∧Deep.rep h' m r.Maps K∧(∀k,K k→E0.length≤k)∧(∀k,k < E0.length→h'.ents[k]? =E0[k]?)∧E0.length≤h'.ents.length:=by
 have hdk:dk < E0.length:=(List.getElem?_eq_some_iff.1 hd0).1;refine res_dp (f:=p74) rfl rfl rfl fun e hl he=>?_;have h0_0:e.at 0=V.int .i64 a0:=he 0 _ rfl;have h1_0:e.at 1=V.sl dk du 0 a1.length 1:=he 1 _ rfl;have hl_0:e.length=41:=hl;clear he hl;show W A b74 e ⟨E0,c0⟩ _;unfold F74 at hF;obtain⟨t13,gt13,hF⟩:=bS hF;have ws:ans A 73 [V.isl (a1.map enc)]=some (V.int .i64 (a1.length:Int)):=s73 a1 rfl;simp only[simprocAttr, -Int.reduceNatCast',R0,b74,hl_0,h0_0,h1_0,le1,qB,ge2a,ge2b,ge3a,ge3b,ge3c,se2a,se2b,se3a,se3b,se3c,jw];show W A (.block 0 (.loop true b74_1)) _ _ _;rw[qm];refine qJ gt13 _ rfl (fun i s e h=> s.2=(a0,a1)∧∃u vs K,h.ents[E0.length]? =some (c0,some [V.int .i64 0,V.nils,V.nils])∧h.ents[E0.length+1]? =some (u,some vs)∧h.ents[E0.length+2]? =some (c0+2,some [V.int .i64 a0,V.sl dk du 0 a1.length 1,V.sl (E0.length+1) u 0 s.1.length 1])∧reps h vs s.1 K∧(∀k,K k→E0.length+3≤k)∧(∀k,k < E0.length→h.ents[k]? =E0[k]?)∧e.length=41∧e.at 1=V.sl dk du 0 a1.length 1∧e.at 4=V.ptr E0.length c0 0∧e.at 5=V.ptr (E0.length+2) (c0+2) 0∧e.at 6=V.int .i64 i) ?_ ?_ ?_
 ·refine⟨rfl,c0+1,[],fun _=> False,ge3a ..,ge3b ..,ge3c ..,fun _ x=> x,fun _ x=> x.elim,fun k q=>?_,?_⟩
  ·rw[wP,wP]; exact List.getElem?_append_left q
  simp only[simprocAttr, -Int.reduceNatCast',R0,hl_0,h0_0,h1_0]
 ·clear hl_0 h0_0 h1_0
  rintro i ⟨l,q⟩ e ⟨E,c⟩ ⟨rfl,u,vs,K,g1,g2,g3,g4,g5,g6,hl_1,h1_1,h4_1,h5_1,h6_1⟩ hlt hw o ho;unfold F74_1_B at ho;simp only at ho g1 g2 g3 g4 g6;have hDd:E[dk]? =some (du,some (a1.map enc)):=(g6 dk hdk).trans hd0;have wfz:frz ⟨E,c⟩ 16 (V.sl dk du 0 a1.length 1)=_:=frz_row hDd;obtain⟨x7,gx7,ho⟩:=bS ho;obtain⟨w8a,w8b⟩:=qh gx7;have w8c:=qY gx7;have w8d:qS none (List.drop (Int.toNat i) (a1.map enc))=some (V.int .i64 x7):=qx (by rw[List.getElem?_map,w8b]; rfl);have hDx:∀x,(E++[x])[dk]? =some (du,some (a1.map enc)):=fun x=>(List.getElem?_append_left (List.getElem?_eq_some_iff.1 hDd).1).trans hDd;obtain⟨rows,gt20,ho⟩:=bS ho;obtain⟨l22,gl22,ho⟩:=bS ho;obtain⟨q1,q2,rfl⟩:=app_w gl22;have hE:=wA ho; subst hE;have hE0:E0.length+2 < E.length:=(List.getElem?_eq_some_iff.1 g3).1;simp only[simprocAttr, -Int.reduceNatCast',R0,b74_1,hl_1,h1_1,h4_1,h5_1,h6_1,eq_true hlt,hw,ws,wfz,w8a,eq_true w8c,w8d,hDd,hDx];refine W.mono (Q:=fun x' e h=> x'= .normal∧∃u' vs' K',h.ents[E.length]? =some (u',some vs')∧reps h vs' rows K'∧(∀k,K' k→E.length+1≤k)∧(∀k,k < E.length→h.ents[k]? =E[k]?)∧e.length=41∧e.at 1=V.sl dk du 0 a1.length 1∧e.at 4=V.ptr E0.length c0 0∧e.at 5=V.ptr (E0.length+2) (c0+2) 0∧e.at 6=V.int .i64 i∧e.at 7=V.sl E.length u' 0 rows.length 1) ?_ ?_
  rotate_left
  ·rintro _ e ⟨E1,c1⟩ ⟨rfl,u',vs',K',f1,f2,f3,f4,hl_2,h1_2,h4_2,h5_2,h6_2,h7_2⟩
   simp only at f1 f4;have hln:=g4.len;have hE1:E.length < E1.length:=(List.getElem?_eq_some_iff.1 f1).1;have m0:=(f4 E0.length (by omega)).trans g1;have m1:=(f4 (E0.length+1) (by omega)).trans g2;have m2:=(f4 (E0.length+2) (by omega)).trans g3;have n2:∀y,(E1++[y])[E0.length+2]? =_:=fun y=>(List.getElem?_append_left (by omega)).trans m2;have n2':∀y z,((E1++[y]).set (E0.length+1) z)[E0.length+2]? =_:=fun y z=>(qK (by omega) (by omega)).trans m2;have w9:∀y c',qQ 1 24 (.sl (E0.length+1) u 0 l.length 1) 1 [V.sl E.length u' 0 rows.length 1] ⟨E1++[y],c'⟩=_:=fun y c'=> qZ (E:=E1++[y]) (vs:=vs) (by rw[List.getElem?_append_left (by omega)]; exact m1) hln (by simpa using q1) (by simpa using q2);simp only[simprocAttr, -Int.reduceNatCast',R0,hl_2,h1_2,h4_2,h5_2,h6_2,h7_2,hw,m2,n2,n2',qB,w9];have r0:Deep.rep ⟨E1,c1⟩ (V.sl E.length u' 0 rows.length 1) rows (fun k=> k=E.length∨K' k):=rep_at f1 f2 (fun q=> by have:=f3 _ q; omega);have hk:∀k,K k∨(k=E.length∨K' k)→E0.length+3≤k:=fun k q=> q.elim (g5 k) (fun q=> q.elim (fun q=> by omega) (fun q=> by have:=f3 k q; omega));have r1:=xI (h:=⟨E,c⟩) (h1:=⟨E1,c1⟩) (h2:=⟨((E1++[(c1,some [V.sl E.length u' 0 rows.length 1])]).set (E0.length+1) (c1+1,some (vs++[V.sl E.length u' 0 rows.length 1]))).set (E0.length+2) (c0+2,some [V.int .i64 a0,V.sl dk du 0 a1.length 1,V.sl (E0.length+1) (c1+1) 0 (l.length+1) 1]),c1+1+1⟩) (K:=K) g4
    r0 (fun k q=> q.elim (fun q=> by show E.length≤k; omega) (fun q=> by have:=f3 k q; show E.length≤k; omega)) f4 (fun k p q=> by
     have:=hk k q;rw[qo (by omega)];exact qK (by omega) p) (by show E.length≤E1.length; omega)
   refine ai rfl (ai rfl ⟨c1+1,vs++[V.sl E.length u' 0 rows.length 1],_,?_,?_,?_,r1,hk,fun k q=>?_,?_⟩)
   ·exact(qo (by omega)).trans ((qK (by omega) (by omega)).trans m0)
   ·exact(qo (by omega)).trans (qk (by simp; omega))
   ·simp only[wL,vD,vF,wS]
    exact qk (by simp; omega)
   ·exact(qo (by omega)).trans ((qK (by omega) (by omega)).trans ((f4 k (by omega)).trans (g6 k q)))
   ·simp only[simprocAttr, -Int.reduceNatCast',R0,hl_2,h1_2,h4_2,h5_2,h6_2,h7_2,hw]
  show W A (.block 2 (.loop true b74_2)) _ _ _;rw[qm];refine qJ gt20 _ rfl (fun j rs e h=>∃u' vs' K',h.ents[E.length]? =some (u',some vs')∧reps h vs' rs K'∧(∀k,K' k→E.length+1≤k)∧(∀k,k < E.length→h.ents[k]? =E[k]?)∧e.length=41∧e.at 1=V.sl dk du 0 a1.length 1∧e.at 4=V.ptr E0.length c0 0∧e.at 5=V.ptr (E0.length+2) (c0+2) 0∧e.at 6=V.int .i64 i∧e.at 7=V.sl E.length u' 0 rs.length 1∧e.at 21=V.int .i64 x7∧e.at 22=V.int .i64 j) ?_ ?_ ?_
  ·refine⟨c,[],fun _=> False,qB _ _,fun _ x=> x,fun _ x=> x.elim,fun k q=> List.getElem?_append_left q,?_⟩
   simp only[simprocAttr, -Int.reduceNatCast',R0,hl_1,h1_1,h4_1,h5_1,h6_1]
  ·clear hl_1 h1_1 h4_1 h5_1 h6_1
   rintro j rs e ⟨E1,c1⟩ ⟨u',vs',K',f1,f2,f3,f4,hl_1,h1_1,h4_1,h5_1,h6_1,h7_1,h21_1,h22_1⟩ hlt2 hw2 o ho;unfold F74_2_B at ho;obtain⟨x13,gx13,ho⟩:=bS ho;have wx13:=qy gx13;obtain⟨x14,gx14,ho⟩:=bS ho;obtain⟨w15a,w15b⟩:=qh gx14;have w15c:=qY gx14;have w15d:qS none (List.drop (Int.toNat x13) (a1.map enc))=some (V.int .i64 x14):=qx (by rw[List.getElem?_map,w15b]; rfl);obtain⟨l16,gl16,ho⟩:=bS ho;obtain⟨w17a,w17b,w17c,w17d,w17e⟩:=mkL_w gl16;replace w17e:(List.replicate (Int.toNat x14) [V.int .i64 0]).flatten=List.map enc l16:=w17e;obtain⟨l19,gl19,ho⟩:=bS ho;obtain⟨q1,q2,rfl⟩:=app_w gl19;have hE:=wA ho; subst hE;simp only at f1 f4;have hln:=f2.len;have hE1:E.length < E1.length:=(List.getElem?_eq_some_iff.1 f1).1;have hD1:E1[dk]? =some (du,some (a1.map enc)):=(f4 dk (by omega)).trans hDd;have w9:∀x y c',qQ 1 24 (.sl E.length u' 0 rs.length 1) 1 [V.sl E1.length c1 0 (Int.toNat x14) 1] ⟨E1++[x]++[y],c'⟩=_:=fun x y c'=> qZ (E:=E1++[x]++[y]) (vs:=vs') (by rw[List.getElem?_append_left (by simp; omega),List.getElem?_append_left hE1]; exact f1) hln (by simpa using q1) (by simpa using q2);simp only[simprocAttr, -Int.reduceNatCast',R0,b74_2,hl_1,h1_1,h4_1,h5_1,h6_1,h7_1,h21_1,h22_1,eq_true hlt2,hw2,wx13,w15a,eq_true w15c,w15d,hD1,w17a,w17b,w17c,w17e,qB,w9];have r0:Deep.rep ⟨E1++[(c1,some (l16.map enc))],c1+1⟩ (V.sl E1.length c1 0 (Int.toNat x14) 1) l16 (fun k=> k=E1.length):=by
    rw[←w17d]; exact js (qB _ _) fun k=> vY
   have r1:=xI (h:=⟨E1,c1⟩) (h1:=⟨E1++[(c1,some (l16.map enc))],c1+1⟩) (h2:=⟨(E1++[(c1,some (l16.map enc))]++[(c1+1,some [V.sl E1.length c1 0 (Int.toNat x14) 1])]).set E.length (c1+1+1,some (vs'++[V.sl E1.length c1 0 (Int.toNat x14) 1])),c1+1+1+1⟩) f2
    r0 (fun k q=> by show E1.length≤k; omega) (fun k q=> List.getElem?_append_left q) (fun k p q=> qK (fun e=> by subst e; exact q.elim (fun q=> by have:=f3 _ q; omega) (fun q=> by omega)) p) (by simp)
   refine ai rfl ⟨_,_,_,qk (by simp; omega),r1,fun k q=> q.elim (f3 k) (fun q=> by omega),fun k q=>?_,?_⟩
   ·refine(qK (by omega) (by simp; omega)).trans ((List.getElem?_append_left (by omega)).trans (f4 k q))
   ·simp only[simprocAttr, -Int.reduceNatCast',R0,hl_1,h1_1,h4_1,h5_1,h6_1,h7_1,h21_1,h22_1,hw2,wL]
  ·clear hl_1 h1_1 h4_1 h5_1 h6_1
   rintro j rs e ⟨E1,c1⟩ ⟨u',vs',K',f1,f2,f3,f4,hl_1,h1_1,h4_1,h5_1,h6_1,h7_1,h21_1,h22_1⟩ hge t1 ho;have hE:=wA ho; subst hE;simp only[simprocAttr, -Int.reduceNatCast',R0,b74_2,hl_1,h1_1,h4_1,h5_1,h6_1,h7_1,h21_1,h22_1,eq_false hge];intro ht; subst ht;exact⟨u',vs',K',f1,f2,f3,f4,rfl⟩
 ·rintro i ⟨l,q⟩ e ⟨E,c⟩ ⟨rfl,u,vs,K,g1,g2,g3,g4,g5,g6,hl_1,h1_1,h4_1,h5_1,h6_1⟩ hge t1 ho
  unfold F74_1_D at ho;have hE:=wA ho; subst hE;simp only at hF g1 g2 g3 g4 g6;have hDd:E[dk]? =some (du,some (a1.map enc)):=(g6 dk hdk).trans hd0;have wfz:frz ⟨E,c⟩ 16 (V.sl dk du 0 a1.length 1)=_:=frz_row hDd;simp only[simprocAttr, -Int.reduceNatCast',R0,b74_1,hl_1,h1_1,h4_1,h5_1,h6_1,eq_false hge,ws,wfz,g1,g2,g3];intro ht; subst ht;have hE:=wA hF; subst hE;have hE0:E0.length+2 < E.length:=(List.getElem?_eq_some_iff.1 g3).1;refine ai (fun _=> trivial) ⟨_,by simp only[simprocAttr, -Int.reduceNatCast',R0,qe,p74,Rs.ev,hl_1,h4_1,qk (show E0.length < E.length by omega)]; rfl,rfl,rfl,_,_,rfl,rep_at (α:=List (List Int)) (K:=K) ?_ (g4.frame fun k q=> qo (by have:=g5 k q; omega)) (fun q=> by have:=g5 _ q; omega),fun k q=> q.elim (fun q=> by omega) (fun q=> by have:=g5 k q; omega),fun k q=>(qo (by omega)).trans (g6 k q),by simp; omega⟩;exact(qo (by omega)).trans g2
def F75(p:Int)(n r pl v:Int)(s:List (List (List Int))):Option (List (List (List Int))):=
 (chk (n - 1)).bind fun i=>(getI s i).bind fun t=>(getI t r).bind fun row=>(getI row pl).bind fun old=>(chk (old+v)).bind fun a=>(remI a p).bind fun b=>(chk (b+p)).bind fun d=>(remI d p).bind fun z=>
 (setI row pl z).bind fun row'=>(setI t r row').bind fun t'=> setI s i t'
theorem d75{p n r pl v:Int}{dv:V}{s s':List (List (List Int))}(hF:F75 p n r pl v s=some s')(E:List (Nat×Option (List V)))(c:Nat){m:V}{K:Ks}(hr:Deep.rep ⟨E,c⟩ m s K):
  ∃h',res A 75 [V.agg [V.int .i64 p,dv,m],V.int .i64 n,V.int .i64 r,V.int .i64 pl,V.int .i64 v] ⟨E,c⟩=some (V.undef,h')∧Deep.rep h' m s' K∧(∀k,k < E.length→¬K k→h'.ents[k]? =E[k]?)∧E.length≤h'.ents.length:=by
 refine res_ex (f:=p75) rfl rfl rfl fun e hl he=>?_;have h0:e.at 0=V.agg [V.int .i64 p,dv,m]:=he 0 _ rfl;have h1:e.at 1=V.int .i64 n:=he 1 _ rfl;have h2:e.at 2=V.int .i64 r:=he 2 _ rfl;have h3:e.at 3=V.int .i64 pl:=he 3 _ rfl;have h4:e.at 4=V.int .i64 v:=he 4 _ rfl;have hl_0:e.length=38:=hl;clear he hl;show W A b75 e ⟨E,c⟩ _;unfold F75 at hF;obtain⟨i,gi,hF⟩:=bS hF;have wi:=qy gi;obtain⟨t,gt,hF⟩:=bS hF;obtain⟨ta,tb⟩:=qh gt;have tc:=qY gt;obtain⟨row,gr,hF⟩:=bS hF;obtain⟨ra,rb⟩:=qh gr;have rc:=qY gr;obtain⟨old,go,hF⟩:=bS hF;obtain⟨oa,ob⟩:=qh go;have oc:=qY go;obtain⟨a,ga,hF⟩:=bS hF;have wa:=qy ga;obtain⟨b,gb,hF⟩:=bS hF;obtain⟨wb0,wb⟩:=rem_w gb;obtain⟨d,gd,hF⟩:=bS hF;have wd:=qy gd;obtain⟨z,gz,hF⟩:=bS hF;obtain⟨_,wz⟩:=rem_w gz;obtain⟨row',gs,hF⟩:=bS hF;obtain⟨s1,s2,s3,s4,s5⟩:=xp gs;obtain⟨t',gt',hF⟩:=bS hF;have st:t'=t.set r.toNat row':=setI_eq gt';have sm:s'=s.set i.toNat t':=setI_eq hF;obtain⟨key,uid,vs,x1,K1,hm,a1,a2,a3,a4,a5,a6⟩:=rep_focus hr tb;obtain⟨key2,uid2,vs2,x2,K2,hx1,b1,b2,b3,b4,b5,b6⟩:=rep_focus a4 rb;rcases row_int b4 with⟨_,rfl,_⟩|⟨key3,uid3,hx2,d1,d2⟩
 ·exact absurd ob (by simp)
 have o1:=qx a2;have o2:=qx b2;have o3:qS none (List.drop pl.toNat (row.map enc))=some (V.int .i64 old):=qx (by rw[List.getElem?_map,ob]; rfl);have s5':List.take pl.toNat (row.map enc)++[V.int .i64 z]++List.drop (pl.toNat+1) (row.map enc)=List.map enc row':=s5;simp only at a1 b1 d1;have k1:key < E.length:=(List.getElem?_eq_some_iff.1 a1).1;have k2:key2 < E.length:=(List.getElem?_eq_some_iff.1 b1).1;have k3:key3 < E.length:=(List.getElem?_eq_some_iff.1 d1).1;have p1:∀x,(E++[x])[key]? =some (uid,some vs):=fun x=>(List.getElem?_append_left k1).trans a1;have p2:∀x,(E++[x])[key2]? =some (uid2,some vs2):=fun x=>(List.getElem?_append_left k2).trans b1;have p3:∀x,(E++[x])[key3]? =some (uid3,some (row.map enc)):=fun x=>(List.getElem?_append_left k3).trans d1;simp only[simprocAttr,R0,b75,hl_0,h0,h1,h2,h3,h4,qB,hm,wi,ta,eq_true tc,p1,o1,hx1,ra,eq_true rc,p2,o2,hx2,oa,eq_true oc,p3,o3,wa,wb0,wb,wd,wz,s3,s5'];rw[←hm];have q:∀k,k≠key3→k < E.length→((E++[(c,some [V.int .i64 p,dv,m])]).set key3 (uid3,some (List.map enc row')))[k]? =E[k]?:=fun k h1 h2=> qK h1 h2;have r0:Deep.rep ⟨(E++[(c,some [V.int .i64 p,dv,m])]).set key3 (uid3,some (List.map enc row')),c+1⟩ x2 row' K2:=by
  rw[hx2,←s4]; exact js (qk (by simp; omega)) d2
 have r1:=b6 _ _ r0 (fun k hk nk=> q k (fun e=> nk ((d2 k).2 e)) (Deep.bd a4 hk));rw[←st]at r1;have r2:=a6 _ _ r1 (fun k hk nk=> q k (fun e=> nk (b5 k ((d2 k).2 e))) (Deep.bd hr hk));rw[←sm]at r2;refine ai (fun _=> trivial) ⟨?_,r2,fun k hk nk=> q k (fun e=> nk (a5 k (b5 k ((d2 k).2 e)))) hk,by simp⟩;simp only[simprocAttr,R1,qe,p75,mapO];rfl
def S75(p:Int)(dv m:V)(N c1:Nat)(K:Ks)(R:List (Nat×Option (List V))→Prop)(s:List (List (List Int)))(E:List (Nat×Option (List V))):Prop:=
 Deep.rep ⟨E,0⟩ m s K∧R E∧E[N]? =some (c1,some [V.int .i64 p,dv,m])
theorem sp75{p:Int}{dv m:V}{N c1:Nat}{K:Ks}{R:List (Nat×Option (List V))→Prop}(hR:∀E E',R E→(∀k,k < E.length→¬K k→E'[k]? =E[k]?)→R E'){s:List (List (List Int))}{E:List (Nat×Option (List V))}{x:Nat×Option (List V)}(h:S75 p dv m N c1 K R s E):S75 p dv m N c1 K R s (E++[x]):=by
 obtain⟨h1,h2,h3⟩:=h;exact⟨Deep.frame h1 fun k q=> List.getElem?_append_left (Deep.bd h1 q),hR E _ h2 fun k q _=> List.getElem?_append_left q,(List.getElem?_append_left (List.getElem?_eq_some_iff.1 h3).1).trans h3⟩
theorem sc75{p:Int}{dv m:V}{N c1:Nat}{K:Ks}{R:List (Nat×Option (List V))→Prop}(hN:¬K N)(hR:∀E E',R E→(∀k,k < E.length→¬K k→E'[k]? =E[k]?)→R E'){n r pl v:Int}{s s':List (List (List Int))}(hF:F75 p n r pl v s=some s'){E:List (Nat×Option (List V))}(c:Nat)(h:S75 p dv m N c1 K R s E):
  ∃E' c',res A 75 [V.agg [V.int .i64 p,dv,m],V.int .i64 n,V.int .i64 r,V.int .i64 pl,V.int .i64 v] ⟨E,c⟩=some (V.undef,⟨E',c'⟩)∧S75 p dv m N c1 K R s' E':=by
 obtain⟨h1,h2,h3⟩:=h;have r1:Deep.rep ⟨E,c⟩ m s K:=Deep.frame h1 fun _ _=> rfl;obtain⟨⟨E',c'⟩,q1,q2,q3,q4⟩:=d75 (dv:=dv) hF E c r1;exact⟨E',c',q1,Deep.frame q2 fun _ _=> rfl,hR E E' h2 q3,(q3 N (List.getElem?_eq_some_iff.1 h3).1 hN).trans h3⟩
def F85{σ:Type}(ms:List (List (List Int)))(f:Int→Int→Int→Int→σ→Option σ)(s:σ):Option σ:=
 forR 0 (ms.length:Int) (fun k s=>(getI ms k).bind fun rows=>(forR 0 (rows.length:Int) (fun i s=>(getI rows i).bind fun row=>
  (forR 0 (row.length:Int) (fun j s=>(getI row j).bind fun v=>(chk (k+1)).bind fun n=>(f n i j v s).bind fun s'=> some (.inl s')) (fun _ s=> some s) s).bind fun s'=> some (.inl s')) (fun _ s=> some s) s).bind fun s'=> some (.inl s')) (fun _ s=> some s) s
structure Step4 (g:Nat) (fs cs:List V) {σ:Type} (S:σ→List (Nat×Option (List V))→Prop) (f:Int→Int→Int→Int→σ→Option σ):Prop where
 call:∀n r p v s s',f n r p v s=some s'→∀E c,S s E→∃E' c',res A g (fs++[V.int .i64 n,V.int .i64 r,V.int .i64 p,V.int .i64 v]++cs) ⟨E,c⟩=some (V.undef,⟨E',c'⟩)∧S s' E'
 pad:∀s E x,S s E→S s (E++[x])
theorem e85{g:Nat}{fs cs:List V}{σ:Type}{S:σ→List (Nat×Option (List V))→Prop}{f:Int→Int→Int→Int→σ→Option σ}(st:Step4 g fs cs S f)(x:qa){s s':σ}(hF:F85 x.Maps f s=some s')(E:List (Nat×Option (List V)))(c:Nat)(hS:S s E):
  ∃h',res A 85 [V.agg [V.int .i64 x.Prime,V.isl (List.map enc x.Dims),V.isl (List.map enc x.Maps)],V.fn g fs cs] ⟨E,c⟩=some (V.undef,h')∧S s' h'.ents:=by
 refine res_ex (f:=p85) rfl rfl rfl fun e hl he=>?_;have h0:e.at 0=V.agg [V.int .i64 x.Prime,V.isl (List.map enc x.Dims),V.isl (List.map enc x.Maps)]:=he 0 _ rfl;have h1:e.at 1=V.fn g fs cs:=he 1 _ rfl;have hl_0:e.length=42:=hl;clear he hl;show W A b85 e ⟨E,c⟩ _;unfold F85 at hF;simp only[simprocAttr, -Int.reduceNatCast',R0,b85,h0,h1,qB,jw, *];show W A (.block 0 (.loop true b85_1)) _ _ _;rw[qm];refine qJ hF _ rfl (fun i s e h=> S s h.ents∧e.length=42∧e.at 1=V.fn g fs cs∧e.at 11=V.isl (List.map enc x.Maps)∧e.at 12=V.int .i64 (x.Maps.length:Int)∧e.at 13=V.int .i64 i) ?_ ?_ ?_
 ·refine ai (st.pad _ _ _ hS) ?_
  simp only[simprocAttr, -Int.reduceNatCast',R0,h0,h1, *]
 ·rintro i s e ⟨E,c⟩ ⟨hS,hl_1,h1_1,h11_1,h12_1,h13_1⟩ hlt hw o ho
  obtain⟨rows,g1,ho⟩:=bS ho;obtain⟨w1a,w1b⟩:=qh g1;obtain⟨z,g2,ho⟩:=bS ho;have hE:=wA ho; subst hE;simp only[simprocAttr, -Int.reduceNatCast',R0,b85_1, *];refine W.mono (Q:=fun x' e h=> x'= .normal∧S z h.ents∧e.length=42∧e.at 1=V.fn g fs cs∧e.at 11=V.isl (List.map enc x.Maps)∧e.at 12=V.int .i64 (x.Maps.length:Int)∧e.at 13=V.int .i64 i) ?_ ?_
  rotate_left
  ·rintro _ e ⟨E2,c2⟩ ⟨rfl,hS2,hl_2,h1_2,h11_2,h12_2,h13_2⟩
   simp only[simprocAttr, -Int.reduceNatCast',R0, *];refine ai rfl (ai hS2 ?_);simp only[simprocAttr, -Int.reduceNatCast',R0, *]
  show W A (.block 2 (.loop true b85_2)) _ _ _;rw[qm];refine qJ g2 _ rfl (fun j s e h=> S s h.ents∧e.length=42∧e.at 1=V.fn g fs cs∧e.at 11=V.isl (List.map enc x.Maps)∧e.at 12=V.int .i64 (x.Maps.length:Int)∧e.at 13=V.int .i64 i∧e.at 4=V.int .i64 i∧e.at 18=V.isl (List.map enc rows)∧e.at 19=V.int .i64 (rows.length:Int)∧e.at 20=V.int .i64 j) ?_ ?_ ?_
  ·refine ai hS ?_
   simp only[simprocAttr, -Int.reduceNatCast',R0, *]
  ·clear hl_1 h1_1 h11_1 h12_1 h13_1
   rintro j s e ⟨E,c⟩ ⟨hS,hl_1,h1_1,h11_1,h12_1,h13_1,h4_1,h18_1,h19_1,h20_1⟩ hlt2 hw2 o ho;obtain⟨row,g3,ho⟩:=bS ho;obtain⟨w3a,w3b⟩:=qh g3;obtain⟨z2,g4,ho⟩:=bS ho;have hE:=wA ho; subst hE;simp only[simprocAttr, -Int.reduceNatCast',R0,b85_2, *];refine W.mono (Q:=fun x' e h=> x'= .normal∧S z2 h.ents∧e.length=42∧e.at 1=V.fn g fs cs∧e.at 11=V.isl (List.map enc x.Maps)∧e.at 12=V.int .i64 (x.Maps.length:Int)∧e.at 13=V.int .i64 i∧e.at 4=V.int .i64 i∧e.at 18=V.isl (List.map enc rows)∧e.at 19=V.int .i64 (rows.length:Int)∧e.at 20=V.int .i64 j) ?_ ?_
   rotate_left
   ·rintro _ e ⟨E2,c2⟩ ⟨rfl,hS2,hl_2,h1_2,h11_2,h12_2,h13_2,h4_2,h18_2,h19_2,h20_2⟩
    simp only[simprocAttr, -Int.reduceNatCast',R0, *];refine ai rfl (ai hS2 ?_);simp only[simprocAttr, -Int.reduceNatCast',R0, *]
   show W A (.block 4 (.loop true b85_3)) _ _ _;rw[qm];refine qJ g4 _ rfl (fun k s e h=> S s h.ents∧e.length=42∧e.at 1=V.fn g fs cs∧e.at 11=V.isl (List.map enc x.Maps)∧e.at 12=V.int .i64 (x.Maps.length:Int)∧e.at 13=V.int .i64 i∧e.at 4=V.int .i64 i∧e.at 18=V.isl (List.map enc rows)∧e.at 19=V.int .i64 (rows.length:Int)∧e.at 20=V.int .i64 j∧e.at 6=V.int .i64 j∧e.at 25=V.isl (List.map enc row)∧e.at 26=V.int .i64 (row.length:Int)∧e.at 27=V.int .i64 k) ?_ ?_ ?_
   ·refine ai hS ?_
    simp only[simprocAttr, -Int.reduceNatCast',R0, *]
   ·clear hl_1 h1_1 h11_1 h12_1 h13_1 h4_1 h18_1 h19_1 h20_1
    rintro k s e ⟨E,c⟩ ⟨hS,hl_1,h1_1,h11_1,h12_1,h13_1,h4_1,h18_1,h19_1,h20_1,h6_1,h25_1,h26_1,h27_1⟩ hlt3 hw3 o ho;obtain⟨v,g5,ho⟩:=bS ho;obtain⟨w5a,w5b⟩:=qh g5;obtain⟨n,g6,ho⟩:=bS ho;have w6:=qy g6;obtain⟨s2,g7,ho⟩:=bS ho;have hE:=wA ho; subst hE;obtain⟨E2,c2,hr,hS2⟩:=st.call _ _ _ _ _ _ g7 E c hS;simp only[simprocAttr, -Int.reduceNatCast',R0,b85_3,hl_1,h1_1,h11_1,h12_1,h13_1,h4_1,h18_1,h19_1,h20_1,h6_1,h25_1,h26_1,h27_1,eq_true hlt3,hw3,w5a,w5b,w6,qv,wP]at hr ⊢;simp only[simprocAttr, -Int.reduceNatCast',R0,hr, *];refine ai rfl (ai hS2 ?_);simp only[simprocAttr, -Int.reduceNatCast',R0, *]
   ·clear hl_1 h1_1 h11_1 h12_1 h13_1 h4_1 h18_1 h19_1 h20_1
    rintro k s e ⟨E,c⟩ ⟨hS,hl_1,h1_1,h11_1,h12_1,h13_1,h4_1,h18_1,h19_1,h20_1,h6_1,h25_1,h26_1,h27_1⟩ hge t1 ho;have hE:=wA ho; subst hE;simp only[simprocAttr, -Int.reduceNatCast',R0,b85_3, *];intro ht; subst ht;exact hS
  ·clear hl_1 h1_1 h11_1 h12_1 h13_1
   rintro j s e ⟨E,c⟩ ⟨hS,hl_1,h1_1,h11_1,h12_1,h13_1,h4_1,h18_1,h19_1,h20_1⟩ hge t1 ho;have hE:=wA ho; subst hE;simp only[simprocAttr, -Int.reduceNatCast',R0,b85_2, *];intro ht; subst ht;exact hS
 ·rintro i s e ⟨E,c⟩ ⟨hS,hl_1,h1_1,h11_1,h12_1,h13_1⟩ hge t1 ho
  have hE:=wA ho; subst hE;simp only[simprocAttr, -Int.reduceNatCast',R0,b85_1, *];intro ht; subst ht;refine ai (fun i=> by simp only[ne_eq,reduceCtorEq,not_false_eq_true]) (ai ?_ hS);simp only[simprocAttr, -Int.reduceNatCast',R1,qe,p85,mapO];rfl
def F407_S(s:List Int×Int×Int):Option ((List Int×Int×Int)⊕List Int):=
 if s.2.1 < s.2.2 then(getI s.1 s.2.2).bind fun b=>(getI s.1 s.2.1).bind fun a=>(setI s.1 s.2.1 b).bind fun l1=>(setI l1 s.2.2 a).bind fun l2=>(chk (s.2.1+1)).bind fun i=>(chk (s.2.2 - 1)).bind fun j=> some (.inl (l2,i,j))
 else some (.inr s.1)
noncomputable def F407(row:List Int):Option (List Int):=(chk ((row.length:Int) - 1)).bind fun j=> ze F407_S (row,0,j)
theorem d407{row row':List Int}(hF:F407 row=some row')(E:List (Nat×Option (List V)))(c:Nat){key uid:Nat}(g1:E[key]? =some (uid,some (row.map enc))):
  res A 407 [V.sl key uid 0 row.length 1] ⟨E,c⟩=some (V.undef,⟨E.set key (uid,some (List.map enc row')),c⟩)∧row'.length=row.length:=by
 have hk:key < E.length:=(List.getElem?_eq_some_iff.1 g1).1
 suffices∃h',res A 407 [V.sl key uid 0 row.length 1] ⟨E,c⟩=some (V.undef,h')∧h'=⟨E.set key (uid,some (List.map enc row')),c⟩∧row'.length=row.length by
  obtain⟨h',q1,rfl,q2⟩:=this;exact⟨q1,q2⟩
 refine res_ex (f:=p407) rfl rfl rfl fun e hl he=>?_;have h0_0:e.at 0=V.sl key uid 0 row.length 1:=he 0 _ rfl;have hl_0:e.length=28:=hl;clear he hl;show W A b407 e ⟨E,c⟩ _;unfold F407 at hF;obtain⟨j0,gj0,hF⟩:=bS hF;have wj0:=qy gj0;simp only[simprocAttr, -Int.reduceNatCast',R0,b407,hl_0,h0_0,wj0];show W A (.block 0 (.loop true b407_1)) _ _ _;rw[qm];refine jG hF _ rfl (fun s e h=> s.1.length=row.length∧h=⟨E.set key (uid,some (List.map enc s.1)),c⟩∧e.length=28∧e.at 0=V.sl key uid 0 row.length 1∧e.at 2=V.int .i64 s.2.1∧e.at 3=V.int .i64 s.2.2) ?_ ?_
 ·refine⟨rfl,?_,?_⟩
  ·rw[set_self g1]
  ·simp only[simprocAttr, -Int.reduceNatCast',R0,hl_0,h0_0]
 ·clear hl_0 h0_0
  rintro⟨s,i,j⟩ e h ⟨hs,rfl,hl_1,h0_1,h2_1,h3_1⟩ o ho;simp only at hs h2_1 h3_1;unfold F407_S at ho;simp only at ho;have n1:∀x,(E.set key x)[key]? =some x:=fun x=> qk hk;by_cases c1:i < j
  ·rw[if_pos c1]at ho
   obtain⟨b,gb,ho⟩:=bS ho;obtain⟨ba,bb⟩:=qh gb;have bc:=qY gb;obtain⟨a,ga,ho⟩:=bS ho;obtain⟨aa,ab⟩:=qh ga;have ac:=qY ga;obtain⟨l1,g2,ho⟩:=bS ho;obtain⟨s1,s2,s3,s4,s5⟩:=xp g2;obtain⟨l2,g3,ho⟩:=bS ho;obtain⟨t1,t2,t3,t4,t5⟩:=xp g3;obtain⟨i',gi,ho⟩:=bS ho;have wi:=qy gi;obtain⟨j',gj,ho⟩:=bS ho;have wj:=qy gj;have hE:=wA ho; subst hE;have ob:qS none (List.drop (Int.toNat j) (s.map enc))=some (V.int .i64 b):=qx (by rw[List.getElem?_map,bb]; rfl);have oa:qS none (List.drop (Int.toNat i) (s.map enc))=some (V.int .i64 a):=qx (by rw[List.getElem?_map,ab]; rfl);have s5':List.take (Int.toNat i) (s.map enc)++[V.int .i64 b]++List.drop (Int.toNat i+1) (s.map enc)=List.map enc l1:=s5;have t5':List.take (Int.toNat j) (l1.map enc)++[V.int .i64 a]++List.drop (Int.toNat j+1) (l1.map enc)=List.map enc l2:=t5;have bc':j < (row.length:Int):=by omega
   have ac':i < (row.length:Int):=by omega
   simp only[simprocAttr, -Int.reduceNatCast',R0,b407_1,hl_1,h0_1,h2_1,h3_1,eq_true c1,ba,eq_true bc',aa,eq_true ac',ob,oa,n1,s3,s5',t3,t5',List.set_set,wi,wj];refine ai rfl ⟨by simp only; omega,rfl,?_⟩;simp only[simprocAttr, -Int.reduceNatCast',R0,hl_1,h0_1,h2_1,h3_1,wi,wj]
  ·rw[if_neg c1]at ho
   have hE:=wA ho; subst hE;simp only[simprocAttr, -Int.reduceNatCast',R0,b407_1,hl_1,h0_1,h2_1,h3_1,eq_false c1];intro ht; subst ht;refine ai (by intro i; first|trivial|simp) ⟨?_,rfl,hs⟩;simp only[simprocAttr, -Int.reduceNatCast',R0,qe,p407,mapO];rfl
def F408(p:Int)(x:qa)(n r pl v:Int)(s:List (List (List Int))):Option (List (List (List Int))):=(F86 x).bind fun t=>(chk (t - n)).bind fun a=>(chk (a+1)).bind fun b=> F75 p b pl r v s
theorem st408(x:qa)(p:Int)(dv m:V)(N c1:Nat)(K:Ks)(R:List (Nat×Option (List V))→Prop)(hN:¬K N)(hR:∀E E',R E→(∀k,k < E.length→¬K k→E'[k]? =E[k]?)→R E'):Step4 408 [] [V.ptr N c1 0,V.iptr [V.int .i64 x.Prime,V.isl (x.Dims.map enc),V.isl (x.Maps.map enc)]] (S75 p dv m N c1 K R) (fun n r pl v s=> F408 p x n r pl v s) where
 call:=by
  rintro n r pl v s s' hF E c h;have h3:=h.2.2;unfold F408 at hF;obtain⟨t,gt,hF⟩:=bS hF;have wt:ans A 86 [(eC x)]=some (V.int .i64 t):=s86 x gt;obtain⟨a,ga,hF⟩:=bS hF;have wa:=qy ga;obtain⟨b,gb,hF⟩:=bS hF;have wb:=qy gb;obtain⟨E',c',q1,q2⟩:=sc75 hN hR hF c h;have key:∃h',res A 408 [V.int .i64 n,V.int .i64 r,V.int .i64 pl,V.int .i64 v,V.ptr N c1 0,V.iptr [V.int .i64 x.Prime,V.isl (x.Dims.map enc),V.isl (x.Maps.map enc)]] ⟨E,c⟩=some (V.undef,h')∧h'=⟨E',c'⟩:=by
   refine res_ex (f:=p408) rfl rfl rfl fun e hl he=>?_;have h0_0:e.at 0=V.int .i64 n:=he 0 _ rfl;have h1_0:e.at 1=V.int .i64 r:=he 1 _ rfl;have h2_0:e.at 2=V.int .i64 pl:=he 2 _ rfl;have h3_0:e.at 3=V.int .i64 v:=he 3 _ rfl;have h4_0:e.at 4=V.ptr N c1 0:=he 4 _ rfl;have h5_0:e.at 5=V.iptr [V.int .i64 x.Prime,V.isl (x.Dims.map enc),V.isl (x.Maps.map enc)]:=he 5 _ rfl;have hl_0:e.length=20:=hl;clear he hl;show W A b408 e ⟨E,c⟩ _;simp only[simprocAttr,R0,b408,h3,qv,q1, *];refine ai (fun _=> trivial) ?_;simp only[simprocAttr,R1,qe,p408,mapO];rfl
  obtain⟨_,k1,rfl⟩:=key;exact⟨E',c',k1,q2⟩
 pad:=fun s E x h=> sp75 hR h
def F390(x:qa):Option (T2 qa Int):=(F42 x).bind fun t=> if t=true then(F96 x.Dims).bind fun d=>(F407 d).bind fun d'=>(F74 x.Prime d').bind fun o=>(F85 x.Maps (fun n r pl v s=> F408 o.Prime x n r pl v s) o.Maps).bind fun m=> some ⟨⟨o.Prime,o.Dims,m⟩,0⟩else some ⟨⟨0,[],[]⟩,1⟩
theorem d390(x:qa){r:T2 qa Int}(hF:F390 x=some r):∃v h',res A 390 [(eC x)] Heap.empty=some (v,h')∧∃vs K,v=V.tup vs∧repF h' vs [⟨r.a⟩,⟨r.b⟩] K:=by
 refine res_dp (f:=p390) rfl rfl rfl fun e hl he=>?_;have h0_0:e.at 0=(eC x):=he 0 _ rfl;have hl_0:e.length=23:=hl;clear he hl;show W A b390 e ⟨[],0⟩ _;unfold F390 at hF;obtain⟨t,gt,hF⟩:=bS hF;have wt:ans A 42 [(eC x)]=some (V.bool t):=s42 x gt;have hz:∀h:Heap,Deep.rep h (V.agg [V.int .i64 0,V.nils,V.nils]) (⟨0,[],[]⟩:qa) (fun _=> False∨False):=fun h=>⟨_,rfl,rec3 (K1:=fun _=> False) (K2:=fun _=> False) (rep_nils _) (rep_nils _) (fun _ q _=> q)⟩;cases t with
 |false=>
  rw[if_neg wD]at hF;cases hF;simp only[simprocAttr,R0,b390,hl_0,h0_0,wt];refine ai (fun _=> trivial) ⟨V.tup [V.agg [V.int .i64 0,V.nils,V.nils],V.int .i64 1],?_,_,_,rfl,jg (hz _) _⟩;simp only[simprocAttr,R0,qe,p390,Rs.ev,hl_0]
 |true=>
  rw[if_pos rfl]at hF;obtain⟨d,gd,hF⟩:=bS hF;have wd:tans A 96 [1] [V.isl (x.Dims.map enc)]=some (V.isl (d.map enc)):=t96 x.Dims gd;have wdt:=zb (α:=Int) d;obtain⟨d',gr,hF⟩:=bS hF;obtain⟨wr,lr⟩:=d407 gr [(0,none),(1,some [V.int .i64 0,V.nils,V.nils]),(2,some (d.map enc))] 3 (key:=2) (uid:=2) rfl;obtain⟨o,go,hF⟩:=bS hF;obtain⟨m3,gm,hF⟩:=bS hF;cases hF;obtain⟨_,⟨E1,c1⟩,w1,e1,e2,m,K,rfl,t1,t2,t3,t4⟩:=d74 x.Prime d' go [(0,none),(1,some [V.int .i64 0,V.nils,V.nils]),(2,some (List.map enc d'))] 3 (dk:=2) (du:=2) rfl;simp only[vD,vF,wS,Nat.reduceAdd]at t2 t3 t4;rw[lr]at w1;have a1:E1[1]? =some (1,some [V.int .i64 0,V.nils,V.nils]):=t3 1 (by decide);have a2:E1[2]? =some (2,some (List.map enc d')):=t3 2 (by decide);have hKN:¬K E1.length:=fun q=> by have:=Deep.bd t1 q; simp at this
  have hR:∀E E',(fun E:List (Nat×Option (List V))=> E[1]? =some (1,some [V.int .i64 0,V.nils,V.nils])∧E[2]? =some (2,some (List.map enc d'))) E→(∀k,k < E.length→¬K k→E'[k]? =E[k]?)→(fun E:List (Nat×Option (List V))=> E[1]? =some (1,some [V.int .i64 0,V.nils,V.nils])∧E[2]? =some (2,some (List.map enc d'))) E':=fun E E' h hk=>
   ⟨(hk 1 (List.getElem?_eq_some_iff.1 h.1).1 (fun q=> by have:=t2 _ q; omega)).trans h.1,(hk 2 (List.getElem?_eq_some_iff.1 h.2).1 (fun q=> by have:=t2 _ q; omega)).trans h.2⟩
  have S0:S75 o.Prime (V.sl 2 2 0 d.length 1) m E1.length c1 K (fun E:List (Nat×Option (List V))=> E[1]? =some (1,some [V.int .i64 0,V.nils,V.nils])∧E[2]? =some (2,some (List.map enc d'))) o.Maps (E1++[(c1,some [V.int .i64 o.Prime,V.sl 2 2 0 d.length 1,m])]):=
   ⟨Deep.frame t1 fun k q=> List.getElem?_append_left (Deep.bd t1 q),⟨(List.getElem?_append_left (by omega)).trans a1,(List.getElem?_append_left (by omega)).trans a2⟩,qB _ _⟩
  obtain⟨⟨E2,c2⟩,w2,S1,⟨S3,S4⟩,S5⟩:=e85 (st408 x o.Prime (V.sl 2 2 0 d.length 1) m E1.length c1 K _ hKN hR) x gm _ (c1+1) S0;simp only at S1 S3 S4 S5;have hE1:1 < E2.length:=(List.getElem?_eq_some_iff.1 S3).1;simp only[simprocAttr,R0,b390,hl_0,h0_0,wt,qI,wd,wdt,qv,wr,w1,qB,jw,w2,S5,S3];have hq:(E2.set 1 (1,some [V.int .i64 o.Prime,V.sl 2 2 0 d.length 1,m]))[2]? =some (2,some (List.map enc d')):=(qo (by decide)).trans S4;have hd:Deep.rep ⟨E2.set 1 (1,some [V.int .i64 o.Prime,V.sl 2 2 0 d.length 1,m]),c2⟩ (V.sl 2 2 0 d.length 1) o.Dims (fun k=> k=2):=by
   have z:=js (h:=⟨E2.set 1 (1,some [V.int .i64 o.Prime,V.sl 2 2 0 d.length 1,m]),c2⟩) (l:=d') (K:=fun k=> k=2) hq fun k=> vY;rw[lr]at z;rw[e2];exact z
  have hf:Deep.rep ⟨E2.set 1 (1,some [V.int .i64 o.Prime,V.sl 2 2 0 d.length 1,m]),c2⟩ (V.agg [V.int .i64 o.Prime,V.sl 2 2 0 d.length 1,m]) (⟨o.Prime,o.Dims,m3⟩:qa) (fun k=> k=2∨K k):=
   ⟨_,rfl,rec3 (K1:=fun k=> k=2) (K2:=K) hd (Deep.frame S1 fun k q=> qo (by have:=t2 _ q; omega)) (fun k p q=> by have:=t2 _ q; omega)⟩
  exact ai (fun _=> trivial) ⟨V.tup [V.agg [V.int .i64 o.Prime,V.sl 2 2 0 d.length 1,m],V.int .i64 0],by simp only[simprocAttr,R0,qe,p390,Rs.ev,hl_0,qk hE1],_,_,rfl,jg hf _⟩
theorem s390(x:qa){r:T2 qa Int}(hF:F390 x=some r):ans A 390 [(eC x)]=some (EncR.enc r):=by
 obtain⟨_,h',h1,vs,K,rfl,h2⟩:=d390 x hF;exact ans_tup (ss:=[1,1,1]) (fits_pair rfl (by decide)) h1 h2
def F78(a0:Int):Option Bool:=
 if a0=2 then
  some true
 else
  if a0=3 then
   some true
  else
   if a0=5 then
    some true
   else
    some (decide (a0=7))
theorem s78(a0:Int){r:Bool}(hF:F78 a0=some r):ans A 78 [V.int .i64 a0]=some (enc r):=by
 refine qA (f:=p78) rfl rfl rfl fun e hl he=>?_;have h0_0:e.at 0=V.int .i64 a0:=he 0 _ rfl;have hl_0:e.length=17:=hl;clear he hl;have h_0:=ai hl_0 h0_0;show W A b78 e ⟨[],0⟩ _;unfold F78 at hF;by_cases c1:a0=2
 ·rw[if_pos c1]at hF
  cases hF;simp only[simprocAttr,R0,b78, *];exact qd (by simp only[simprocAttr,R0,qe,p78,Rs.ev,qb, *])
 ·rw[if_neg c1]at hF
  by_cases c2:a0=3
  ·rw[if_pos c2]at hF
   cases hF;simp only[simprocAttr,R0,b78, *];exact qd (by simp only[simprocAttr,R0,qe,p78,Rs.ev,qb, *])
  ·rw[if_neg c2]at hF
   by_cases c3:a0=5
   ·rw[if_pos c3]at hF
    cases hF;simp only[simprocAttr,R0,b78, *];exact qd (by simp only[simprocAttr,R0,qe,p78,Rs.ev,qb, *])
   ·rw[if_neg c3]at hF
    cases hF;simp only[simprocAttr,R0,b78, *];exact qd (by simp only[simprocAttr,R0,qe,p78,Rs.ev,qb, *])
def F79_2_S(a0:Int)(a1:List (List Int))(a3:Int)(v9_1:Int)(v10_2:Int):Option ((Int)⊕((Unit)⊕Bool)):=
 (getI a1 v9_1).bind fun x11=>
if v10_2 < (x11.length:Int)then
 (getI x11 v10_2).bind fun x14=>
 (chk (a0 - 1)).bind fun x16=>
 (F54 x14 0 x16).bind fun x17=>
 if x17=true then
  (chk (v10_2+1)).bind fun x19=>
  some (.inl x19)
 else
  some (.inr (.inr false))
else
 some (.inr (.inl ()))
def F79_1_B(a0:Int)(a1:List (List Int))(a3:Int)(v9_1:Int)(s:Unit):Option ((Unit)⊕((Unit)⊕Bool)):=
 (getI a1 v9_1).bind fun x5=>
if(x5.length:Int)=a3 then
 (ze (F79_2_S a0 a1 a3 v9_1) 0).bind fun t20=> match t20 with
  | .inl _=>
   some (.inl ())
  | .inr r21=> some (.inr (.inr r21))
else
 some (.inr (.inr false))
def F79_1_D(a0:Int)(a1:List (List Int))(a3:Int)(v9_1:Int)(s:Unit):Option ((Unit)⊕Bool):=
 some (.inl ())
def F79(a0:Int)(a1:List (List Int))(a2:Int)(a3:Int):Option Bool:=
 if(a1.length:Int)=a2 then
  (forR 0 (a1.length:Int) (F79_1_B a0 a1 a3) (F79_1_D a0 a1 a3) ()).bind fun t22=> match t22 with
   | .inl _=>
    some true
   | .inr r23=> some r23
 else
  some false
def I79_2(a0:Int)(a1:List (List Int))(a3:Int)(v9_1:Int)(v10_2:Int)(e:Env)(h:Heap):Prop:=
 ∃k9:Nat,h=⟨[],k9⟩∧e.length=48∧e.at 0=V.int .i64 a0∧e.at 1=V.isl (a1.map enc)∧e.at 3=V.int .i64 a3∧e.at 9=V.int .i64 v9_1∧e.at 10=V.int .i64 v10_2
def P79_2(a0:Int)(a1:List (List Int))(a3:Int)(v9_1:Int)(t:(Unit)⊕Bool)(x:Ex)(e:Env)(h:Heap):Prop:=
 match t with
 | .inl _=> x= .normal∧∃k9:Nat,h=⟨[],k9⟩∧e.length=48∧e.at 0=V.int .i64 a0∧e.at 1=V.isl (a1.map enc)∧e.at 3=V.int .i64 a3∧e.at 9=V.int .i64 v9_1
 | .inr r=> x= .ret∧Fin p79 (enc r) .ret e h
theorem l79_2(a0:Int)(a1:List (List Int))(a3:Int)(v9_1:Int){s:Int}{t:(Unit)⊕Bool}(hF:ze (F79_2_S a0 a1 a3 v9_1) s=some t){e:Env}{h:Heap}(hI:I79_2 a0 a1 a3 v9_1 s e h):W A c79_2 e h (P79_2 a0 a1 a3 v9_1 t):=by
 show W A (.block 2 (.loop false b79_2)) e h _;rw[qm];refine jG hF 0 (by obtain⟨_,rfl,_⟩:=hI; rfl) (I79_2 a0 a1 a3 v9_1) hI ?_
 ·rintro v10_2 e h ⟨k9,rfl,h_8⟩ o ho
  unfold F79_2_S at ho;obtain⟨x11,gx11,ho⟩:=bS ho;obtain⟨w12a,w12b⟩:=qh gx11;by_cases c13:v10_2 < (x11.length:Int)
  ·rw[if_pos c13]at ho
   obtain⟨x14,gx14,ho⟩:=bS ho;obtain⟨w15a,w15b⟩:=qh gx14;obtain⟨x16,gx16,ho⟩:=bS ho;have wx16:=qy gx16;obtain⟨x17,gx17,ho⟩:=bS ho;have w18:=s54 x14 0 x16 gx17;cases x17 with
   |true=>
    rw[if_pos rfl]at ho;obtain⟨x19,gx19,ho⟩:=bS ho;have wx19:=qy gx19;cases ho;simp only[simprocAttr,R0,b79_2, *];refine ai rfl (ei _ (ai rfl ?_));simp only[simprocAttr,R0, *]
   |false=>
    rw[if_neg wD]at ho;cases ho;simp only[simprocAttr,R0,b79_2, *];intro ht; subst ht;simp only[simprocAttr,RR,RB];exact ai rfl (qd (by simp only[simprocAttr,R0,qe,p79,Rs.ev,qb, *]))
  ·rw[if_neg c13]at ho
   cases ho;simp only[simprocAttr,R0,b79_2, *];intro ht; subst ht;simp only[simprocAttr,RR,RB];refine ai rfl (ei _ (ai rfl ?_));simp only[simprocAttr,R0, *]
def I79_1(a0:Int)(a1:List (List Int))(a3:Int)(v9_1:Int)(s:Unit)(e:Env)(h:Heap):Prop:=
 ∃k3:Nat,h=⟨[],k3⟩∧e.length=48∧e.at 0=V.int .i64 a0∧e.at 1=V.isl (a1.map enc)∧e.at 3=V.int .i64 a3∧e.at 9=V.int .i64 v9_1
def P79_1(a0:Int)(a1:List (List Int))(a3:Int)(t:(Unit)⊕Bool)(x:Ex)(e:Env)(h:Heap):Prop:=
 match t with
 | .inl _=> x= .normal∧∃k3:Nat,h=⟨[],k3⟩∧e.length=48
 | .inr r=> x= .ret∧Fin p79 (enc r) .ret e h
theorem l79_1(a0:Int)(a1:List (List Int))(a3:Int){lo:Int}{s:Unit}{t:(Unit)⊕Bool}(hF:forR lo (a1.length:Int) (F79_1_B a0 a1 a3) (F79_1_D a0 a1 a3) s=some t){e:Env}{h:Heap}(hI:I79_1 a0 a1 a3 lo s e h):W A c79_1 e h (P79_1 a0 a1 a3 t):=by
 show W A (.block 0 (.loop false b79_1)) e h _;rw[qm];refine qJ hF 0 (by obtain⟨_,rfl,_⟩:=hI; rfl) (I79_1 a0 a1 a3) hI ?_ ?_
 ·rintro v9_1 _ e h ⟨k3,rfl,h_2⟩ hlt hw o ho
  unfold F79_1_B at ho;obtain⟨x5,gx5,ho⟩:=bS ho;obtain⟨w6a,w6b⟩:=qh gx5;by_cases c7:(x5.length:Int)=a3
  ·rw[if_pos c7]at ho
   obtain⟨t20,gt20,ho⟩:=bS ho;rcases t20 with _|r21
   ·dsimp only at ho
    simp only[simprocAttr,R0,b79_1, *];refine W.mono (l79_2 a0 a1 a3 v9_1 gt20 (ei _ (ai rfl ?_))) ?_
    ·simp only[simprocAttr,R0, *]
    rintro _ e _ ⟨rfl,k9,rfl,h_10⟩;cases ho;simp only[simprocAttr,R0, *];refine ai rfl (ei _ (ai rfl ?_));simp only[simprocAttr,R0, *]
   ·dsimp only at ho
    cases ho;simp only[simprocAttr,R0,b79_1, *];refine W.mono (l79_2 a0 a1 a3 v9_1 gt20 (ei _ (ai rfl ?_))) ?_
    ·simp only[simprocAttr,R0, *]
    rintro _ e h ⟨rfl,hq⟩;simp only[simprocAttr,RR,RB];intro ht; subst ht;simp only[simprocAttr,RR,RB];exact ai rfl hq
  ·rw[if_neg c7]at ho
   cases ho;simp only[simprocAttr,R0,b79_1, *];intro ht; subst ht;simp only[simprocAttr,RR,RB];exact ai rfl (qd (by simp only[simprocAttr,R0,qe,p79,Rs.ev,qb, *]))
 ·rintro v9_1 _ e h ⟨k3,rfl,h_2⟩ hge t1 ho
  unfold F79_1_D at ho;cases ho;simp only[simprocAttr,R0,b79_1, *];intro ht; subst ht;refine ai rfl (ei _ (ai rfl ?_));simp only[simprocAttr,R0, *]
theorem s79(a0:Int)(a1:List (List Int))(a2:Int)(a3:Int){r:Bool}(hF:F79 a0 a1 a2 a3=some r):ans A 79 [V.int .i64 a0,V.isl (a1.map enc),V.int .i64 a2,V.int .i64 a3]=some (enc r):=by
 refine qA (f:=p79) rfl rfl rfl fun e hl he=>?_;have h0_0:e.at 0=V.int .i64 a0:=he 0 _ rfl;have h1_0:e.at 1=V.isl (a1.map enc):=he 1 _ rfl;have h2_0:e.at 2=V.int .i64 a2:=he 2 _ rfl;have h3_0:e.at 3=V.int .i64 a3:=he 3 _ rfl;have hl_0:e.length=48:=hl;clear he hl;have h_0:=ai hl_0 (ai h0_0 (ai h1_0 (ai h2_0 h3_0)));show W A b79 e ⟨[],0⟩ _;unfold F79 at hF;by_cases c1:(a1.length:Int)=a2
 ·rw[if_pos c1]at hF
  obtain⟨t22,gt22,hF⟩:=bS hF;rcases t22 with _|r23
  ·dsimp only at hF
   simp only[simprocAttr,R0,b79, *];refine W.mono (l79_1 a0 a1 a3 gt22 (ei _ (ai rfl ?_))) ?_
   ·simp only[simprocAttr,R0, *]
   rintro _ e _ ⟨rfl,k3,rfl,hl_4⟩;cases hF;simp only[simprocAttr,R0, *];exact qd (by simp only[simprocAttr,R0,qe,p79,Rs.ev,qb, *])
  ·dsimp only at hF
   cases hF;simp only[simprocAttr,R0,b79, *];refine W.mono (l79_1 a0 a1 a3 gt22 (ei _ (ai rfl ?_))) ?_
   ·simp only[simprocAttr,R0, *]
   rintro _ e h ⟨rfl,hq⟩;simp only[simprocAttr,RR,RB];exact hq
 ·rw[if_neg c1]at hF
  cases hF;simp only[simprocAttr,R0,b79, *];exact qd (by simp only[simprocAttr,R0,qe,p79,Rs.ev,qb, *])
def F39_1_B(a0:qa)(v3_1:Int)(s:Unit):Option ((Unit)⊕((Unit)⊕Bool)):=
 (getI a0.Dims v3_1).bind fun x10=>
(F54 x10 0 8).bind fun x12=>
if x12=true then
 some (.inl ())
else
 some (.inr (.inr false))
def F39_1_D(a0:qa)(v3_1:Int)(s:Unit):Option ((Unit)⊕Bool):=
 some (.inl ())
def F39_3_S(a0:qa)(v4_2:Int)(v5_3:Int):Option ((Int)⊕((Unit)⊕Bool)):=
 (getI a0.Maps v4_2).bind fun x29=>
if v5_3 < (x29.length:Int)then
 if 0 < v4_2 then
  (chk (v4_2 - 1)).bind fun x33=>
  (getI a0.Maps x33).bind fun x34=>
  (getI x29 v5_3).bind fun x36=>
  (getI a0.Dims x33).bind fun x38=>
  (F80 a0.Prime x34 x36 x38).bind fun x40=>
  (F81 x40).bind fun x42=>
  if 0≤x42 then
   some (.inr (.inr false))
  else
   (chk (v5_3+1)).bind fun x45=>
   some (.inl x45)
 else
  some (.inr (.inl ()))
else
 some (.inr (.inl ()))
def F39_2_B(a0:qa)(v4_2:Int)(s:Unit):Option ((Unit)⊕((Unit)⊕Bool)):=
 (getI a0.Maps v4_2).bind fun x18=>
(getI a0.Dims (v4_2+1)).bind fun x20=>
(getI a0.Dims v4_2).bind fun x22=>
(F79 a0.Prime x18 x20 x22).bind fun x24=>
if x24=true then
 (ze (F39_3_S a0 v4_2) 0).bind fun t46=> match t46 with
  | .inl _=>
   some (.inl ())
  | .inr r47=> some (.inr (.inr r47))
else
 some (.inr (.inr false))
def F39_2_D(a0:qa)(v4_2:Int)(s:Unit):Option ((Unit)⊕Bool):=
 some (.inl ())
def F39(a0:qa):Option Bool:=
 (F78 a0.Prime).bind fun x1=>
 if x1=true then
  if(a0.Dims.length:Int) < 1 then
   some false
  else
   if 6 < (a0.Dims.length:Int)then
    some false
   else
    (chk ((a0.Dims.length:Int) - 1)).bind fun x5=>
    if(a0.Maps.length:Int)=x5 then
     (forR 0 (a0.Dims.length:Int) (F39_1_B a0) (F39_1_D a0) ()).bind fun t14=> match t14 with
      | .inl _=>
       (forR 0 (a0.Maps.length:Int) (F39_2_B a0) (F39_2_D a0) ()).bind fun t48=> match t48 with
        | .inl _=>
         some true
        | .inr r49=> some r49
      | .inr r50=> some r50
    else
     some false
 else
  some false
def I39_1(a0:qa)(v3_1:Int)(s:Unit)(e:Env)(h:Heap):Prop:=
 ∃k8:Nat,h=⟨[(0,none)],k8⟩∧e.length=112∧e.at 1=V.iptr [V.int .i64 a0.Prime,V.isl (a0.Dims.map enc),V.isl (a0.Maps.map enc)]∧e.at 3=V.int .i64 v3_1
def P39_1(a0:qa)(t:(Unit)⊕Bool)(x:Ex)(e:Env)(h:Heap):Prop:=
 match t with
 | .inl _=> x= .normal∧∃k8:Nat,h=⟨[(0,none)],k8⟩∧e.length=112∧e.at 1=V.iptr [V.int .i64 a0.Prime,V.isl (a0.Dims.map enc),V.isl (a0.Maps.map enc)]
 | .inr r=> x= .ret∧Fin p39 (enc r) .ret e h
theorem l39_1(a0:qa){lo:Int}{s:Unit}{t:(Unit)⊕Bool}(hF:forR lo (a0.Dims.length:Int) (F39_1_B a0) (F39_1_D a0) s=some t){e:Env}{h:Heap}(hI:I39_1 a0 lo s e h):W A c39_1 e h (P39_1 a0 t):=by
 show W A (.block 0 (.loop false b39_1)) e h _;rw[qm];refine qJ hF 1 (by obtain⟨_,rfl,_⟩:=hI; rfl) (I39_1 a0) hI ?_ ?_
 ·rintro v3_1 _ e h ⟨k8,rfl,h_7⟩ hlt hw o ho
  unfold F39_1_B at ho;obtain⟨x10,gx10,ho⟩:=bS ho;obtain⟨w11a,w11b⟩:=qh gx10;obtain⟨x12,gx12,ho⟩:=bS ho;have w13:=s54 x10 0 8 gx12;cases x12 with
  |true=>
   rw[if_pos rfl]at ho;cases ho;simp only[simprocAttr,R0,b39_1, *];refine ai rfl (ei _ (ai rfl ?_));simp only[simprocAttr,R0, *]
  |false=>
   rw[if_neg wD]at ho;cases ho;simp only[simprocAttr,R0,b39_1, *];intro ht; subst ht;simp only[simprocAttr,RR,RB];exact ai rfl (qd (by simp only[simprocAttr,R0,qe,p39,Rs.ev,qb, *]))
 ·rintro v3_1 _ e h ⟨k8,rfl,h_7⟩ hge t1 ho
  unfold F39_1_D at ho;cases ho;simp only[simprocAttr,R0,b39_1, *];intro ht; subst ht;refine ai rfl (ei _ (ai rfl ?_));simp only[simprocAttr,R0, *]
def I39_3(a0:qa)(v4_2:Int)(v5_3:Int)(e:Env)(h:Heap):Prop:=
 ∃k27:Nat,h=⟨[(0,none)],k27⟩∧e.length=112∧e.at 1=V.iptr [V.int .i64 a0.Prime,V.isl (a0.Dims.map enc),V.isl (a0.Maps.map enc)]∧e.at 4=V.int .i64 v4_2∧e.at 5=V.int .i64 v5_3
def P39_3(a0:qa)(v4_2:Int)(t:(Unit)⊕Bool)(x:Ex)(e:Env)(h:Heap):Prop:=
 match t with
 | .inl _=> x= .normal∧∃k27:Nat,h=⟨[(0,none)],k27⟩∧e.length=112∧e.at 1=V.iptr [V.int .i64 a0.Prime,V.isl (a0.Dims.map enc),V.isl (a0.Maps.map enc)]∧e.at 4=V.int .i64 v4_2
 | .inr r=> x= .ret∧Fin p39 (enc r) .ret e h
theorem l39_3(a0:qa)(v4_2:Int){s:Int}{t:(Unit)⊕Bool}(hF:ze (F39_3_S a0 v4_2) s=some t){e:Env}{h:Heap}(hI:I39_3 a0 v4_2 s e h):W A c39_3 e h (P39_3 a0 v4_2 t):=by
 show W A (.block 4 (.loop false b39_3)) e h _;rw[qm];refine jG hF 1 (by obtain⟨_,rfl,_⟩:=hI; rfl) (I39_3 a0 v4_2) hI ?_
 ·rintro v5_3 e h ⟨k27,rfl,h_26⟩ o ho
  unfold F39_3_S at ho;obtain⟨x29,gx29,ho⟩:=bS ho;obtain⟨w30a,w30b⟩:=qh gx29;by_cases c31:v5_3 < (x29.length:Int)
  ·rw[if_pos c31]at ho
   by_cases c32:0 < v4_2
   ·rw[if_pos c32]at ho
    obtain⟨x33,gx33,ho⟩:=bS ho;have wx33:=qy gx33;obtain⟨x34,gx34,ho⟩:=bS ho;obtain⟨w35a,w35b⟩:=qh gx34;obtain⟨x36,gx36,ho⟩:=bS ho;obtain⟨w37a,w37b⟩:=qh gx36;obtain⟨x38,gx38,ho⟩:=bS ho;obtain⟨w39a,w39b⟩:=qh gx38;obtain⟨x40,gx40,ho⟩:=bS ho;have w41:=s80 a0.Prime x34 x36 x38 gx40;obtain⟨x42,gx42,ho⟩:=bS ho;have w43:=s81 x40 gx42;by_cases c44:0≤x42
    ·rw[if_pos c44]at ho
     cases ho;simp only[simprocAttr,R0,b39_3, *];intro ht; subst ht;simp only[simprocAttr,RR,RB];exact ai rfl (qd (by simp only[simprocAttr,R0,qe,p39,Rs.ev,qb, *]))
    ·rw[if_neg c44]at ho
     obtain⟨x45,gx45,ho⟩:=bS ho;have wx45:=qy gx45;cases ho;simp only[simprocAttr,R0,b39_3, *];refine ai rfl (ei _ (ai rfl ?_));simp only[simprocAttr,R0, *]
   ·rw[if_neg c32]at ho
    cases ho;simp only[simprocAttr,R0,b39_3, *];intro ht; subst ht;simp only[simprocAttr,RR,RB];refine ai rfl (ei _ (ai rfl ?_));simp only[simprocAttr,R0, *]
  ·rw[if_neg c31]at ho
   cases ho;simp only[simprocAttr,R0,b39_3, *];intro ht; subst ht;simp only[simprocAttr,RR,RB];refine ai rfl (ei _ (ai rfl ?_));simp only[simprocAttr,R0, *]
def I39_2(a0:qa)(v4_2:Int)(s:Unit)(e:Env)(h:Heap):Prop:=
 ∃k16:Nat,h=⟨[(0,none)],k16⟩∧e.length=112∧e.at 1=V.iptr [V.int .i64 a0.Prime,V.isl (a0.Dims.map enc),V.isl (a0.Maps.map enc)]∧e.at 4=V.int .i64 v4_2
def P39_2(a0:qa)(t:(Unit)⊕Bool)(x:Ex)(e:Env)(h:Heap):Prop:=
 match t with
 | .inl _=> x= .normal∧∃k16:Nat,h=⟨[(0,none)],k16⟩∧e.length=112
 | .inr r=> x= .ret∧Fin p39 (enc r) .ret e h
theorem l39_2(a0:qa){lo:Int}{s:Unit}{t:(Unit)⊕Bool}(hF:forR lo (a0.Maps.length:Int) (F39_2_B a0) (F39_2_D a0) s=some t){e:Env}{h:Heap}(hI:I39_2 a0 lo s e h):W A c39_2 e h (P39_2 a0 t):=by
 show W A (.block 2 (.loop false b39_2)) e h _;rw[qm];refine qJ hF 1 (by obtain⟨_,rfl,_⟩:=hI; rfl) (I39_2 a0) hI ?_ ?_
 ·rintro v4_2 _ e h ⟨k16,rfl,h_15⟩ hlt hw o ho
  unfold F39_2_B at ho;obtain⟨x18,gx18,ho⟩:=bS ho;obtain⟨w19a,w19b⟩:=qh gx18;obtain⟨x20,gx20,ho⟩:=bS ho;obtain⟨w21a,w21b⟩:=qh gx20;obtain⟨x22,gx22,ho⟩:=bS ho;obtain⟨w23a,w23b⟩:=qh gx22;obtain⟨x24,gx24,ho⟩:=bS ho;have w25:=s79 a0.Prime x18 x20 x22 gx24;cases x24 with
  |true=>
   rw[if_pos rfl]at ho;obtain⟨t46,gt46,ho⟩:=bS ho;rcases t46 with _|r47
   ·dsimp only at ho
    simp only[simprocAttr,R0,b39_2, *];refine W.mono (l39_3 a0 v4_2 gt46 (ei _ (ai rfl ?_))) ?_
    ·simp only[simprocAttr,R0, *]
    rintro _ e _ ⟨rfl,k27,rfl,h_28⟩;cases ho;simp only[simprocAttr,R0, *];refine ai rfl (ei _ (ai rfl ?_));simp only[simprocAttr,R0, *]
   ·dsimp only at ho
    cases ho;simp only[simprocAttr,R0,b39_2, *];refine W.mono (l39_3 a0 v4_2 gt46 (ei _ (ai rfl ?_))) ?_
    ·simp only[simprocAttr,R0, *]
    rintro _ e h ⟨rfl,hq⟩;simp only[simprocAttr,RR,RB];intro ht; subst ht;simp only[simprocAttr,RR,RB];exact ai rfl hq
  |false=>
   rw[if_neg wD]at ho;cases ho;simp only[simprocAttr,R0,b39_2, *];intro ht; subst ht;simp only[simprocAttr,RR,RB];exact ai rfl (qd (by simp only[simprocAttr,R0,qe,p39,Rs.ev,qb, *]))
 ·rintro v4_2 _ e h ⟨k16,rfl,h_15⟩ hge t1 ho
  unfold F39_2_D at ho;cases ho;simp only[simprocAttr,R0,b39_2, *];intro ht; subst ht;refine ai rfl (ei _ (ai rfl ?_));simp only[simprocAttr,R0, *]
theorem s39(a0:qa){r:Bool}(hF:F39 a0=some r):ans A 39 [(eC a0)]=some (enc r):=by
 refine qA (f:=p39) rfl rfl rfl fun e hl he=>?_;have h0_0:e.at 0=(eC a0):=he 0 _ rfl;have hl_0:e.length=112:=hl;clear he hl;have h_0:=ai hl_0 h0_0;show W A b39 e ⟨[],0⟩ _;unfold F39 at hF;obtain⟨x1,gx1,hF⟩:=bS hF;have w2:=s78 a0.Prime gx1;cases x1 with
 |true=>
  rw[if_pos rfl]at hF;by_cases c3:(a0.Dims.length:Int) < 1
  ·rw[if_pos c3]at hF
   cases hF;simp only[simprocAttr,R0,b39, *];exact qd (by simp only[simprocAttr,R0,qe,p39,Rs.ev,qb, *])
  ·rw[if_neg c3]at hF
   by_cases c4:6 < (a0.Dims.length:Int)
   ·rw[if_pos c4]at hF
    cases hF;simp only[simprocAttr,R0,b39, *];exact qd (by simp only[simprocAttr,R0,qe,p39,Rs.ev,qb, *])
   ·rw[if_neg c4]at hF
    obtain⟨x5,gx5,hF⟩:=bS hF;have wx5:=qy gx5;by_cases c6:(a0.Maps.length:Int)=x5
    ·rw[if_pos c6]at hF
     obtain⟨t14,gt14,hF⟩:=bS hF;rcases t14 with _|r50
     ·dsimp only at hF
      simp only[simprocAttr,R0,b39, *];refine W.mono (l39_1 a0 gt14 (ei _ (ai rfl ?_))) ?_
      ·simp only[simprocAttr,R0, *]
      rintro _ e _ ⟨rfl,k8,rfl,h_9⟩;obtain⟨t48,gt48,hF⟩:=bS hF;rcases t48 with _|r49
      ·dsimp only at hF
       simp only[simprocAttr,R0, *];refine W.mono (l39_2 a0 gt48 (ei _ (ai rfl ?_))) ?_
       ·simp only[simprocAttr,R0, *]
       rintro _ e _ ⟨rfl,k16,rfl,hl_17⟩;cases hF;simp only[simprocAttr,R0, *];exact qd (by simp only[simprocAttr,R0,qe,p39,Rs.ev,qb, *])
      ·dsimp only at hF
       cases hF;simp only[simprocAttr,R0, *];refine W.mono (l39_2 a0 gt48 (ei _ (ai rfl ?_))) ?_
       ·simp only[simprocAttr,R0, *]
       rintro _ e h ⟨rfl,hq⟩;simp only[simprocAttr,RR,RB];exact hq
     ·dsimp only at hF
      cases hF;simp only[simprocAttr,R0,b39, *];refine W.mono (l39_1 a0 gt14 (ei _ (ai rfl ?_))) ?_
      ·simp only[simprocAttr,R0, *]
      rintro _ e h ⟨rfl,hq⟩;simp only[simprocAttr,RR,RB];exact hq
    ·rw[if_neg c6]at hF
     cases hF;simp only[simprocAttr,R0,b39, *];exact qd (by simp only[simprocAttr,R0,qe,p39,Rs.ev,qb, *])
 |false=>
  rw[if_neg wD]at hF;cases hF;simp only[simprocAttr,R0,b39, *];exact qd (by simp only[simprocAttr,R0,qe,p39,Rs.ev,qb, *])
def F409_2_B(a0:List (List Int))(a1:Int)(o0_1:List (List Int))(v6_1:Int)(v8_2:Int)(o1_2:(List Int)):Option (((List Int))⊕((List Int))):=
 (getI a0 v8_2).bind fun x9=>
(getI x9 v6_1).bind fun x11=>
(app 8 o1_2 [x11]).bind fun l14=>
some (.inl l14)
def F409_2_D(a0:List (List Int))(a1:Int)(o0_1:List (List Int))(v6_1:Int)(v8_2:Int)(o1_2:(List Int)):Option ((List Int)):=
 some o1_2
def F409_1_B(a0:List (List Int))(a1:Int)(v6_1:Int)(o0_1:(List (List Int))):Option (((List (List Int)))⊕((List (List Int)))):=
 (forR 0 (a0.length:Int) (F409_2_B a0 a1 o0_1 v6_1) (F409_2_D a0 a1 o0_1 v6_1) ([]:(List Int))).bind fun zo1_2=>
(app 24 o0_1 [zo1_2]).bind fun l17=>
some (.inl l17)
def F409_1_D(a0:List (List Int))(a1:Int)(v6_1:Int)(o0_1:(List (List Int))):Option ((List (List Int))):=
 some o0_1
def F409(a0:List (List Int))(a1:Int):Option (List (List Int)):=
 (forR 0 a1 (F409_1_B a0 a1) (F409_1_D a0 a1) ([]:(List (List Int)))).bind fun zo0_1=>
 some zo0_1
def I409_2(a0:List (List Int))(a1:Int)(o0_1:List (List Int))(v6_1:Int)(u2:Nat)(v8_2:Int)(o1_2:(List Int))(e:Env)(h:Heap):Prop:=
 ∃u6 k7:Nat,h=⟨[(u2,some (o0_1.map enc)),(u6,some (o1_2.map enc))],k7⟩∧e.length=37∧e.at 0=V.isl (a0.map enc)∧e.at 1=V.int .i64 a1∧e.at 5=V.sl 0 u2 0 o0_1.length 1∧e.at 6=V.int .i64 v6_1∧e.at 7=V.sl 1 u6 0 o1_2.length 1∧e.at 8=V.int .i64 v8_2
def P409_2(a0:List (List Int))(a1:Int)(o0_1:List (List Int))(v6_1:Int)(u2:Nat)(zo1_2:(List Int))(x:Ex)(e:Env)(h:Heap):Prop:=
 x= .normal∧∃u6 k7:Nat,h=⟨[(u2,some (o0_1.map enc)),(u6,some (zo1_2.map enc))],k7⟩∧e.length=37∧e.at 0=V.isl (a0.map enc)∧e.at 1=V.int .i64 a1∧e.at 5=V.sl 0 u2 0 o0_1.length 1∧e.at 6=V.int .i64 v6_1∧e.at 7=V.sl 1 u6 0 zo1_2.length 1
theorem l409_2(a0:List (List Int))(a1:Int)(o0_1:List (List Int))(v6_1:Int)(u2:Nat){lo:Int}{s:(List Int)}{t:(List Int)}(hF:forR lo (a0.length:Int) (F409_2_B a0 a1 o0_1 v6_1) (F409_2_D a0 a1 o0_1 v6_1) s=some t){e:Env}{h:Heap}(hI:I409_2 a0 a1 o0_1 v6_1 u2 lo s e h):W A c409_2 e h (P409_2 a0 a1 o0_1 v6_1 u2 t):=by
 show W A (.block 2 (.loop false b409_2)) e h _;rw[qm];refine qJ hF 2 (by obtain⟨_,_,rfl,_⟩:=hI; rfl) (I409_2 a0 a1 o0_1 v6_1 u2) hI ?_ ?_
 ·rintro v8_2 o1_2 e h ⟨u6,k7,rfl,h_5⟩ hlt hw o ho
  unfold F409_2_B at ho;obtain⟨x9,gx9,ho⟩:=bS ho;obtain⟨w10a,w10b⟩:=qh gx9;obtain⟨x11,gx11,ho⟩:=bS ho;obtain⟨w12a,w12b⟩:=qh gx11;obtain⟨l14,gl14,ho⟩:=bS ho;have w13:=fun a b c d e=> qD (α:=Int) (n:=o1_2.length) (m:=1) (ds:=[V.int .i64 x11]) gl14 (by first|rfl|simp) (by first|rfl|simp) rfl a b c d e;have w13l:=qR gl14;cases ho;simp only[simprocAttr,R0,b409_2, *];refine ai rfl (ei _ (ei _ (ai rfl ?_)));simp only[simprocAttr,R0, *]
 ·rintro v8_2 o1_2 e h ⟨u6,k7,rfl,h_5⟩ hge t1 ho
  unfold F409_2_D at ho;cases ho;simp only[simprocAttr,R0,b409_2, *];intro ht; subst ht;refine ai rfl (ei _ (ei _ (ai rfl ?_)));simp only[simprocAttr,R0, *]
def I409_1(a0:List (List Int))(a1:Int)(v6_1:Int)(o0_1:(List (List Int)))(e:Env)(h:Heap):Prop:=
 ∃u2 k3:Nat,h=⟨[(u2,some (o0_1.map enc))],k3⟩∧e.length=37∧e.at 0=V.isl (a0.map enc)∧e.at 1=V.int .i64 a1∧e.at 5=V.sl 0 u2 0 o0_1.length 1∧e.at 6=V.int .i64 v6_1
def P409_1(a0:List (List Int))(a1:Int)(zo0_1:(List (List Int)))(x:Ex)(e:Env)(h:Heap):Prop:=
 x= .normal∧∃u2 k3:Nat,h=⟨[(u2,some (zo0_1.map enc))],k3⟩∧e.length=37∧e.at 5=V.sl 0 u2 0 zo0_1.length 1
theorem l409_1(a0:List (List Int))(a1:Int){lo:Int}{s:(List (List Int))}{t:(List (List Int))}(hF:forR lo a1 (F409_1_B a0 a1) (F409_1_D a0 a1) s=some t){e:Env}{h:Heap}(hI:I409_1 a0 a1 lo s e h):W A c409_1 e h (P409_1 a0 a1 t):=by
 show W A (.block 0 (.loop false b409_1)) e h _;rw[qm];refine qJ hF 1 (by obtain⟨_,_,rfl,_⟩:=hI; rfl) (I409_1 a0 a1) hI ?_ ?_
 ·rintro v6_1 o0_1 e h ⟨u2,k3,rfl,h_1⟩ hlt hw o ho
  unfold F409_1_B at ho;obtain⟨zo1_2,gt15,ho⟩:=bS ho;simp only[simprocAttr,R0,b409_1, *];refine W.mono (l409_2 a0 a1 o0_1 v6_1 u2 gt15 (ei _ (ei _ (ai rfl ?_)))) ?_
  ·simp only[simprocAttr,R0, *]
  rintro _ e _ ⟨rfl,u6,k7,rfl,h_8⟩;obtain⟨l17,gl17,ho⟩:=bS ho;have w16:=fun a b c d e=> qD (α:=List Int) (n:=o0_1.length) (m:=1) (ds:=[V.isl (zo1_2.map enc)]) gl17 (by first|rfl|simp) (by first|rfl|simp) rfl a b c d e;have w16l:=qR gl17;cases ho;simp only[simprocAttr,R0,zk (α:=Int) zo1_2, *];refine ai rfl (ei _ (ei _ (ai rfl ?_)));simp only[simprocAttr,R0,zk (α:=Int) zo1_2, *]
 ·rintro v6_1 o0_1 e h ⟨u2,k3,rfl,h_1⟩ hge t1 ho
  unfold F409_1_D at ho;cases ho;simp only[simprocAttr,R0,b409_1, *];intro ht; subst ht;refine ai rfl (ei _ (ei _ (ai rfl ?_)));simp only[simprocAttr,R0, *]
theorem s409(a0:List (List Int))(a1:Int){r:List (List Int)}(hF:F409 a0 a1=some r):ans A 409 [V.isl (a0.map enc),V.int .i64 a1]=some (enc r):=by
 refine qA (f:=p409) rfl rfl rfl fun e hl he=>?_;have h0_0:e.at 0=V.isl (a0.map enc):=he 0 _ rfl;have h1_0:e.at 1=V.int .i64 a1:=he 1 _ rfl;have hl_0:e.length=37:=hl;clear he hl;show W A b409 e ⟨[],0⟩ _;unfold F409 at hF;obtain⟨zo0_1,gt18,hF⟩:=bS hF;simp only[simprocAttr, -Int.reduceNatCast',R0,b409, *];refine W.mono (l409_1 a0 a1 gt18 (ei _ (ei _ (ai rfl ?_)))) ?_
 ·simp only[simprocAttr, -Int.reduceNatCast',R0, *]
 rintro _ e _ ⟨rfl,u2,k3,rfl,hl_4,h5_4⟩;have hE:=wA hF; subst hE;simp only[simprocAttr, -Int.reduceNatCast',R0, *];exact qd (by simp only[simprocAttr, -Int.reduceNatCast',R0,qe,p409,Rs.ev,qb,frzs (α:=List Int) zo0_1,zk (α:=List Int) zo0_1, *])
def F391_1_S(a0:qa)(x3:Int)(s:(List Int)×Int×Int):Option (((List Int)×Int×Int)⊕((List Int)×Int)):=
 match s with
 |(o2_1,q4_0_1,v6_1)=>
  if v6_1≤x3 then
   (chk (x3 - v6_1)).bind fun x9=>
   (getI a0.Dims x9).bind fun x10=>
   (app 8 o2_1 [x10]).bind fun l13=>
   (chk (v6_1+1)).bind fun x14=>
   some (.inl (l13,q4_0_1,x14))
  else
   some (.inr (o2_1,q4_0_1))
def F391_2_B(a0:qa)(x3:Int)(zo2_1:List Int)(v7_2:Int)(s:(List (List (List Int)))×Int):Option (((List (List (List Int)))×Int)⊕((List (List (List Int)))×Int)):=
 match s with
 |(o3_2,q4_0_2)=>
  (chk (x3 - 1)).bind fun x20=>
  (chk (x20 - v7_2)).bind fun x21=>
  (getI a0.Maps x21).bind fun x22=>
  (getI a0.Dims x21).bind fun x24=>
  (F409 x22 x24).bind fun x26=>
  (app 24 o3_2 [x26]).bind fun l29=>
  some (.inl (l29,q4_0_2))
def F391_2_D(a0:qa)(x3:Int)(zo2_1:List Int)(v7_2:Int)(s:(List (List (List Int)))×Int):Option ((List (List (List Int)))×Int):=
 match s with
 |(o3_2,q4_0_2)=>
  some (o3_2,q4_0_2)
def F391(a0:qa):Option (T2 qa Int):=
 (F39 a0).bind fun x1=>
 if x1=true then
  (chk ((a0.Dims.length:Int) - 1)).bind fun x3=>
  (ze (F391_1_S a0 x3) ([],a0.Prime,0)).bind fun t15=> match t15 with
   |(zo2_1,zq4_0_1)=>
    (forR 0 x3 (F391_2_B a0 x3 zo2_1) (F391_2_D a0 x3 zo2_1) ([],zq4_0_1)).bind fun t30=> match t30 with
     |(zo3_2,zq4_0_2)=>
      some ⟨⟨zq4_0_2,zo2_1,zo3_2⟩,0⟩
 else
  some ⟨⟨0,[],[]⟩,1⟩
def I391_1(a0:qa)(x3:Int)(s:(List Int)×Int×Int)(e:Env)(h:Heap):Prop:=
 match s with
 |(o2_1,q4_0_1,v6_1)=>
  ∃u5 k6:Nat,h=⟨[(0,none),(1,some [V.int .i64 0,V.nils,V.nils]),(u5,some (o2_1.map enc)),(3,some []),(4,some [V.int .i64 q4_0_1,V.sl 2 u5 0 o2_1.length 1,V.sl 3 3 0 0 1])],k6⟩∧e.length=65∧e.at 1=V.iptr [V.int .i64 a0.Prime,V.isl (a0.Dims.map enc),V.isl (a0.Maps.map enc)]∧e.at 2=V.ptr 1 1 0∧e.at 4=V.int .i64 x3∧e.at 5=V.ptr 4 4 0∧e.at 6=V.int .i64 v6_1
def P391_1(a0:qa)(x3:Int)(t:(List Int)×Int)(x:Ex)(e:Env)(h:Heap):Prop:=
 match t with
 |(zo2_1,zq4_0_1)=>
  x= .normal∧∃u5 k6:Nat,h=⟨[(0,none),(1,some [V.int .i64 0,V.nils,V.nils]),(u5,some (zo2_1.map enc)),(3,some []),(4,some [V.int .i64 zq4_0_1,V.sl 2 u5 0 zo2_1.length 1,V.sl 3 3 0 0 1])],k6⟩∧e.length=65∧e.at 1=V.iptr [V.int .i64 a0.Prime,V.isl (a0.Dims.map enc),V.isl (a0.Maps.map enc)]∧e.at 2=V.ptr 1 1 0∧e.at 4=V.int .i64 x3∧e.at 5=V.ptr 4 4 0
theorem l391_1(a0:qa)(x3:Int){s:(List Int)×Int×Int}{t:(List Int)×Int}(hF:ze (F391_1_S a0 x3) s=some t){e:Env}{h:Heap}(hI:I391_1 a0 x3 s e h):W A c391_1 e h (P391_1 a0 x3 t):=by
 show W A (.block 0 (.loop false b391_1)) e h _;rw[qm];refine jG hF 5 (by rcases s with⟨_,_,_⟩; obtain⟨_,_,rfl,_⟩:=hI; rfl) (I391_1 a0 x3) hI ?_
 ·rintro⟨o2_1,q4_0_1,v6_1⟩ e h ⟨u5,k6,rfl,h_4⟩ o ho
  unfold F391_1_S at ho;dsimp only at ho;by_cases c8:v6_1≤x3
  ·rw[if_pos c8]at ho
   obtain⟨x9,gx9,ho⟩:=bS ho;have wx9:=qy gx9;obtain⟨x10,gx10,ho⟩:=bS ho;obtain⟨w11a,w11b⟩:=qh gx10;obtain⟨l13,gl13,ho⟩:=bS ho;have w12:=fun a b c d e=> qD (α:=Int) (n:=o2_1.length) (m:=1) (ds:=[V.int .i64 x10]) gl13 (by first|rfl|simp) (by first|rfl|simp) rfl a b c d e;have w12l:=qR gl13;obtain⟨x14,gx14,ho⟩:=bS ho;have wx14:=qy gx14;cases ho;simp only[simprocAttr,R0,b391_1,h_4,eq_true c8,wx9,w11a,w11b,w12,wx14];refine ai rfl (ei _ (ei _ (ai rfl ?_)));simp only[simprocAttr,R0,h_4,eq_true c8,wx9,w11a,w11b,w12,wx14]
  ·rw[if_neg c8]at ho
   cases ho;simp only[simprocAttr,R0,b391_1,h_4,eq_false c8];intro ht; subst ht;simp only[simprocAttr,RR,RB];refine ai rfl (ei _ (ei _ (ai rfl ?_)));simp only[simprocAttr,R0,h_4,eq_false c8]
def I391_2(a0:qa)(x3:Int)(zo2_1:List Int)(u5:Nat)(v7_2:Int)(s:(List (List (List Int)))×Int)(e:Env)(h:Heap):Prop:=
 match s with
 |(o3_2,q4_0_2)=>
  ∃u17 k18:Nat,h=⟨[(0,none),(1,some [V.int .i64 0,V.nils,V.nils]),(u5,some (zo2_1.map enc)),(u17,some (o3_2.map enc)),(4,some [V.int .i64 q4_0_2,V.sl 2 u5 0 zo2_1.length 1,V.sl 3 u17 0 o3_2.length 1])],k18⟩∧e.length=65∧e.at 1=V.iptr [V.int .i64 a0.Prime,V.isl (a0.Dims.map enc),V.isl (a0.Maps.map enc)]∧e.at 2=V.ptr 1 1 0∧e.at 4=V.int .i64 x3∧e.at 5=V.ptr 4 4 0∧e.at 7=V.int .i64 v7_2
def P391_2(a0:qa)(x3:Int)(zo2_1:List Int)(u5:Nat)(t:(List (List (List Int)))×Int)(x:Ex)(e:Env)(h:Heap):Prop:=
 match t with
 |(zo3_2,zq4_0_2)=>
  x= .normal∧∃u17 k18:Nat,h=⟨[(0,none),(1,some [V.int .i64 0,V.nils,V.nils]),(u5,some (zo2_1.map enc)),(u17,some (zo3_2.map enc)),(4,some [V.int .i64 zq4_0_2,V.sl 2 u5 0 zo2_1.length 1,V.sl 3 u17 0 zo3_2.length 1])],k18⟩∧e.length=65∧e.at 2=V.ptr 1 1 0∧e.at 5=V.ptr 4 4 0
theorem l391_2(a0:qa)(x3:Int)(zo2_1:List Int)(u5:Nat){lo:Int}{s:(List (List (List Int)))×Int}{t:(List (List (List Int)))×Int}(hF:forR lo x3 (F391_2_B a0 x3 zo2_1) (F391_2_D a0 x3 zo2_1) s=some t){e:Env}{h:Heap}(hI:I391_2 a0 x3 zo2_1 u5 lo s e h):W A c391_2 e h (P391_2 a0 x3 zo2_1 u5 t):=by
 show W A (.block 2 (.loop false b391_2)) e h _;rw[qm];refine qJ hF 5 (by rcases s with⟨_,_⟩; obtain⟨_,_,rfl,_⟩:=hI; rfl) (I391_2 a0 x3 zo2_1 u5) hI ?_ ?_
 ·rintro v7_2 ⟨o3_2,q4_0_2⟩ e h ⟨u17,k18,rfl,h_16⟩ hlt hw o ho
  unfold F391_2_B at ho;dsimp only at ho;obtain⟨x20,gx20,ho⟩:=bS ho;have wx20:=qy gx20;obtain⟨x21,gx21,ho⟩:=bS ho;have wx21:=qy gx21;obtain⟨x22,gx22,ho⟩:=bS ho;obtain⟨w23a,w23b⟩:=qh gx22;obtain⟨x24,gx24,ho⟩:=bS ho;obtain⟨w25a,w25b⟩:=qh gx24;obtain⟨x26,gx26,ho⟩:=bS ho;have w27:ans A 409 [V.isl (x22.map enc),V.int .i64 x24]=some (V.isl (x26.map enc)):=s409 x22 x24 gx26;obtain⟨l29,gl29,ho⟩:=bS ho;have w28:=fun a b c d e=> qD (α:=List (List Int)) (n:=o3_2.length) (m:=1) (ds:=[V.isl (x26.map enc)]) gl29 (by first|rfl|simp) (by first|rfl|simp) rfl a b c d e;have w28l:=qR gl29;cases ho;simp only[simprocAttr,R0,b391_2,h_16,eq_true hlt,hw,wx20,wx21,w23a,w23b,w25a,w25b,w27,w28];refine ai rfl (ei _ (ei _ (ai rfl ?_)));simp only[simprocAttr,R0,h_16,eq_true hlt,hw,wx20,wx21,w23a,w23b,w25a,w25b,w27,w28]
 ·rintro v7_2 ⟨o3_2,q4_0_2⟩ e h ⟨u17,k18,rfl,h_16⟩ hge t1 ho
  unfold F391_2_D at ho;dsimp only at ho;cases ho;simp only[simprocAttr,R0,b391_2,h_16,eq_false hge];intro ht; subst ht;refine ai rfl (ei _ (ei _ (ai rfl ?_)));simp only[simprocAttr,R0,h_16,eq_false hge]
theorem s391(a0:qa){r:T2 qa Int}(hF:F391 a0=some r):ans A 391 [(eC a0)]=some (EncR.enc r):=by
 refine qA (f:=p391) rfl rfl rfl fun e hl he=>?_;have h0_0:e.at 0=(eC a0):=he 0 _ rfl;have hl_0:e.length=65:=hl;clear he hl;have h_0:=ai hl_0 h0_0;show W A b391 e ⟨[],0⟩ _;unfold F391 at hF;obtain⟨x1,gx1,hF⟩:=bS hF;have w2:=s39 a0 gx1;cases x1 with
 |true=>
  rw[if_pos rfl]at hF;obtain⟨x3,gx3,hF⟩:=bS hF;have wx3:=qy gx3;obtain⟨⟨zo2_1,zq4_0_1⟩,gt15,hF⟩:=bS hF;dsimp only at hF;simp only[simprocAttr,R0,b391, *];refine W.mono (l391_1 a0 x3 gt15 (ei _ (ei _ (ai rfl ?_)))) ?_
  ·simp only[simprocAttr,R0, *]
  rintro _ e _ ⟨rfl,u5,k6,rfl,h_7⟩;obtain⟨⟨zo3_2,zq4_0_2⟩,gt30,hF⟩:=bS hF;dsimp only at hF;simp only[simprocAttr,R0, *];refine W.mono (l391_2 a0 x3 zo2_1 u5 gt30 (ei _ (ei _ (ai rfl ?_)))) ?_
  ·simp only[simprocAttr,R0, *]
  rintro _ e _ ⟨rfl,u17,k18,rfl,h_19⟩;cases hF;simp only[simprocAttr,R0, *];exact qd (by simp only[simprocAttr,R0,qe,p391,Rs.ev,qb,frzs (α:=Int) zo2_1,zk (α:=Int) zo2_1,frzs (α:=List (List Int)) zo3_2,zk (α:=List (List Int)) zo3_2, *])
 |false=>
  rw[if_neg wD]at hF;cases hF;simp only[simprocAttr,R0,b391, *];exact qd (by simp only[simprocAttr,R0,qe,p391,Rs.ev,qb, *])
def F422_1_B(a0:List (List Int))(a1:List (List Int))(v5_1:Int)(s:Unit):Option ((Unit)⊕((Unit)⊕Bool)):=
 (getI a0 v5_1).bind fun x5=>
(getI a1 v5_1).bind fun x7=>
(F156 x5 x7).bind fun x9=>
if x9=true then
 some (.inl ())
else
 some (.inr (.inr false))
def F422_1_D(a0:List (List Int))(a1:List (List Int))(v5_1:Int)(s:Unit):Option ((Unit)⊕Bool):=
 some (.inl ())
def F422(a0:List (List Int))(a1:List (List Int)):Option Bool:=
 if(a0.length:Int)=(a1.length:Int)then
  (forR 0 (a0.length:Int) (F422_1_B a0 a1) (F422_1_D a0 a1) ()).bind fun t11=> match t11 with
   | .inl _=>
    some true
   | .inr r12=> some r12
 else
  some false
def I422_1(a0:List (List Int))(a1:List (List Int))(v5_1:Int)(s:Unit)(e:Env)(h:Heap):Prop:=
 ∃k3:Nat,h=⟨[],k3⟩∧e.length=27∧e.at 0=V.isl (a0.map enc)∧e.at 1=V.isl (a1.map enc)∧e.at 5=V.int .i64 v5_1
def P422_1(a0:List (List Int))(a1:List (List Int))(t:(Unit)⊕Bool)(x:Ex)(e:Env)(h:Heap):Prop:=
 match t with
 | .inl _=> x= .normal∧∃k3:Nat,h=⟨[],k3⟩∧e.length=27
 | .inr r=> x= .ret∧Fin p422 (enc r) .ret e h
theorem l422_1(a0:List (List Int))(a1:List (List Int)){lo:Int}{s:Unit}{t:(Unit)⊕Bool}(hF:forR lo (a0.length:Int) (F422_1_B a0 a1) (F422_1_D a0 a1) s=some t){e:Env}{h:Heap}(hI:I422_1 a0 a1 lo s e h):W A c422_1 e h (P422_1 a0 a1 t):=by
 show W A (.block 0 (.loop false b422_1)) e h _;rw[qm];refine qJ hF 0 (by obtain⟨_,rfl,_⟩:=hI; rfl) (I422_1 a0 a1) hI ?_ ?_
 ·rintro v5_1 _ e h ⟨k3,rfl,h_2⟩ hlt hw o ho
  unfold F422_1_B at ho;obtain⟨x5,gx5,ho⟩:=bS ho;obtain⟨w6a,w6b⟩:=qh gx5;obtain⟨x7,gx7,ho⟩:=bS ho;obtain⟨w8a,w8b⟩:=qh gx7;obtain⟨x9,gx9,ho⟩:=bS ho;have w10:=s156 x5 x7 gx9;cases x9 with
  |true=>
   rw[if_pos rfl]at ho;cases ho;simp only[simprocAttr,R0,b422_1, *];refine ai rfl (ei _ (ai rfl ?_));simp only[simprocAttr,R0, *]
  |false=>
   rw[if_neg wD]at ho;cases ho;simp only[simprocAttr,R0,b422_1, *];intro ht; subst ht;simp only[simprocAttr,RR,RB];exact ai rfl (qd (by simp only[simprocAttr,R0,qe,p422,Rs.ev,qb, *]))
 ·rintro v5_1 _ e h ⟨k3,rfl,h_2⟩ hge t1 ho
  unfold F422_1_D at ho;cases ho;simp only[simprocAttr,R0,b422_1, *];intro ht; subst ht;refine ai rfl (ei _ (ai rfl ?_));simp only[simprocAttr,R0, *]
theorem s422(a0:List (List Int))(a1:List (List Int)){r:Bool}(hF:F422 a0 a1=some r):ans A 422 [V.isl (a0.map enc),V.isl (a1.map enc)]=some (enc r):=by
 refine qA (f:=p422) rfl rfl rfl fun e hl he=>?_;have h0_0:e.at 0=V.isl (a0.map enc):=he 0 _ rfl;have h1_0:e.at 1=V.isl (a1.map enc):=he 1 _ rfl;have hl_0:e.length=27:=hl;clear he hl;have h_0:=ai hl_0 (ai h0_0 h1_0);show W A b422 e ⟨[],0⟩ _;unfold F422 at hF;by_cases c1:(a0.length:Int)=(a1.length:Int)
 ·rw[if_pos c1]at hF
  obtain⟨t11,gt11,hF⟩:=bS hF;rcases t11 with _|r12
  ·dsimp only at hF
   simp only[simprocAttr,R0,b422, *];refine W.mono (l422_1 a0 a1 gt11 (ei _ (ai rfl ?_))) ?_
   ·simp only[simprocAttr,R0, *]
   rintro _ e _ ⟨rfl,k3,rfl,hl_4⟩;cases hF;simp only[simprocAttr,R0, *];exact qd (by simp only[simprocAttr,R0,qe,p422,Rs.ev,qb, *])
  ·dsimp only at hF
   cases hF;simp only[simprocAttr,R0,b422, *];refine W.mono (l422_1 a0 a1 gt11 (ei _ (ai rfl ?_))) ?_
   ·simp only[simprocAttr,R0, *]
   rintro _ e h ⟨rfl,hq⟩;simp only[simprocAttr,RR,RB];exact hq
 ·rw[if_neg c1]at hF
  cases hF;simp only[simprocAttr,R0,b422, *];exact qd (by simp only[simprocAttr,R0,qe,p422,Rs.ev,qb, *])
def F410_1_B(a0:List (List (List Int)))(a1:List (List (List Int)))(v5_1:Int)(s:Unit):Option ((Unit)⊕((Unit)⊕Bool)):=
 (getI a0 v5_1).bind fun x5=>
(getI a1 v5_1).bind fun x7=>
(F422 x5 x7).bind fun x9=>
if x9=true then
 some (.inl ())
else
 some (.inr (.inr false))
def F410_1_D(a0:List (List (List Int)))(a1:List (List (List Int)))(v5_1:Int)(s:Unit):Option ((Unit)⊕Bool):=
 some (.inl ())
def F410(a0:List (List (List Int)))(a1:List (List (List Int))):Option Bool:=
 if(a0.length:Int)=(a1.length:Int)then
  (forR 0 (a0.length:Int) (F410_1_B a0 a1) (F410_1_D a0 a1) ()).bind fun t11=> match t11 with
   | .inl _=>
    some true
   | .inr r12=> some r12
 else
  some false
def I410_1(a0:List (List (List Int)))(a1:List (List (List Int)))(v5_1:Int)(s:Unit)(e:Env)(h:Heap):Prop:=
 ∃k3:Nat,h=⟨[],k3⟩∧e.length=27∧e.at 0=V.isl (a0.map enc)∧e.at 1=V.isl (a1.map enc)∧e.at 5=V.int .i64 v5_1
def P410_1(a0:List (List (List Int)))(a1:List (List (List Int)))(t:(Unit)⊕Bool)(x:Ex)(e:Env)(h:Heap):Prop:=
 match t with
 | .inl _=> x= .normal∧∃k3:Nat,h=⟨[],k3⟩∧e.length=27
 | .inr r=> x= .ret∧Fin p410 (enc r) .ret e h
theorem l410_1(a0:List (List (List Int)))(a1:List (List (List Int))){lo:Int}{s:Unit}{t:(Unit)⊕Bool}(hF:forR lo (a0.length:Int) (F410_1_B a0 a1) (F410_1_D a0 a1) s=some t){e:Env}{h:Heap}(hI:I410_1 a0 a1 lo s e h):W A c410_1 e h (P410_1 a0 a1 t):=by
 show W A (.block 0 (.loop false b410_1)) e h _;rw[qm];refine qJ hF 0 (by obtain⟨_,rfl,_⟩:=hI; rfl) (I410_1 a0 a1) hI ?_ ?_
 ·rintro v5_1 _ e h ⟨k3,rfl,h_2⟩ hlt hw o ho
  unfold F410_1_B at ho;obtain⟨x5,gx5,ho⟩:=bS ho;obtain⟨w6a,w6b⟩:=qh gx5;obtain⟨x7,gx7,ho⟩:=bS ho;obtain⟨w8a,w8b⟩:=qh gx7;obtain⟨x9,gx9,ho⟩:=bS ho;have w10:=s422 x5 x7 gx9;cases x9 with
  |true=>
   rw[if_pos rfl]at ho;cases ho;simp only[simprocAttr,R0,b410_1, *];refine ai rfl (ei _ (ai rfl ?_));simp only[simprocAttr,R0, *]
  |false=>
   rw[if_neg wD]at ho;cases ho;simp only[simprocAttr,R0,b410_1, *];intro ht; subst ht;simp only[simprocAttr,RR,RB];exact ai rfl (qd (by simp only[simprocAttr,R0,qe,p410,Rs.ev,qb, *]))
 ·rintro v5_1 _ e h ⟨k3,rfl,h_2⟩ hge t1 ho
  unfold F410_1_D at ho;cases ho;simp only[simprocAttr,R0,b410_1, *];intro ht; subst ht;refine ai rfl (ei _ (ai rfl ?_));simp only[simprocAttr,R0, *]
theorem s410(a0:List (List (List Int)))(a1:List (List (List Int))){r:Bool}(hF:F410 a0 a1=some r):ans A 410 [V.isl (a0.map enc),V.isl (a1.map enc)]=some (enc r):=by
 refine qA (f:=p410) rfl rfl rfl fun e hl he=>?_;have h0_0:e.at 0=V.isl (a0.map enc):=he 0 _ rfl;have h1_0:e.at 1=V.isl (a1.map enc):=he 1 _ rfl;have hl_0:e.length=27:=hl;clear he hl;have h_0:=ai hl_0 (ai h0_0 h1_0);show W A b410 e ⟨[],0⟩ _;unfold F410 at hF;by_cases c1:(a0.length:Int)=(a1.length:Int)
 ·rw[if_pos c1]at hF
  obtain⟨t11,gt11,hF⟩:=bS hF;rcases t11 with _|r12
  ·dsimp only at hF
   simp only[simprocAttr,R0,b410, *];refine W.mono (l410_1 a0 a1 gt11 (ei _ (ai rfl ?_))) ?_
   ·simp only[simprocAttr,R0, *]
   rintro _ e _ ⟨rfl,k3,rfl,hl_4⟩;cases hF;simp only[simprocAttr,R0, *];exact qd (by simp only[simprocAttr,R0,qe,p410,Rs.ev,qb, *])
  ·dsimp only at hF
   cases hF;simp only[simprocAttr,R0,b410, *];refine W.mono (l410_1 a0 a1 gt11 (ei _ (ai rfl ?_))) ?_
   ·simp only[simprocAttr,R0, *]
   rintro _ e h ⟨rfl,hq⟩;simp only[simprocAttr,RR,RB];exact hq
 ·rw[if_neg c1]at hF
  cases hF;simp only[simprocAttr,R0,b410, *];exact qd (by simp only[simprocAttr,R0,qe,p410,Rs.ev,qb, *])
def F392(a0:qa)(a1:qa):Option Bool:=
 if a0.Prime=a1.Prime then
  (F156 a0.Dims a1.Dims).bind fun x2=>
  if x2=true then
   (F410 a0.Maps a1.Maps).bind fun x4=>
   some x4
  else
   some false
 else
  some false
theorem s392(a0:qa)(a1:qa){r:Bool}(hF:F392 a0 a1=some r):ans A 392 [(eC a0),(eC a1)]=some (enc r):=by
 refine qA (f:=p392) rfl rfl rfl fun e hl he=>?_;have h0_0:e.at 0=(eC a0):=he 0 _ rfl;have h1_0:e.at 1=(eC a1):=he 1 _ rfl;have hl_0:e.length=24:=hl;clear he hl;have h_0:=ai hl_0 (ai h0_0 h1_0);show W A b392 e ⟨[],0⟩ _;unfold F392 at hF;by_cases c1:a0.Prime=a1.Prime
 ·rw[if_pos c1]at hF
  obtain⟨x2,gx2,hF⟩:=bS hF;have w3:=s156 a0.Dims a1.Dims gx2;cases x2 with
  |true=>
   rw[if_pos rfl]at hF;obtain⟨x4,gx4,hF⟩:=bS hF;have w5:=s410 a0.Maps a1.Maps gx4;cases hF;simp only[simprocAttr,R0,b392, *];exact qd (by simp only[simprocAttr,R0,qe,p392,Rs.ev,qb, *])
  |false=>
   rw[if_neg wD]at hF;cases hF;simp only[simprocAttr,R0,b392, *];exact qd (by simp only[simprocAttr,R0,qe,p392,Rs.ev,qb, *])
 ·rw[if_neg c1]at hF
  cases hF;simp only[simprocAttr,R0,b392, *];exact qd (by simp only[simprocAttr,R0,qe,p392,Rs.ev,qb, *])
def F411(src:qi)(a1:Int):Option (T2 Int qi):=
 (F416 src 14).bind fun x1=>
 if x1.a=0 then
  (chk (a1+1)).bind fun x4=>
  (F412 x1.b [(-1),x4,1099511627776,(-4611686018427387904)]).bind fun x5=>
  some ⟨x5.a,x5.b⟩
 else
  (chk (a1+1)).bind fun x7=>
  (F416 x1.b x7).bind fun x8=>
  some ⟨x8.a,x8.b⟩
theorem s411(src:qi)(a1:Int){r:T2 Int qi}(hF:F411 src a1=some r):xans A 411 [V.isl (src.code.map enc),V.int .i64 src.at_,V.int .u64 src.hash] [V.int .i64 a1]=some (V.int .i64 r.a,[V.isl (r.b.code.map enc),V.int .i64 r.b.at_,V.int .u64 r.b.hash]):=by
 refine xN (f:=p411) rfl rfl rfl fun e hl h0 he=>?_;have h0_0:e.at 0=V.ptr 0 0 0:=h0;have h1_0:e.at 1=V.int .i64 a1:=he 0 _ rfl;have hl_0:e.length=17:=hl;clear h0 he hl;show W A b411 e ⟨[(0,some [V.isl (src.code.map enc),V.int .i64 src.at_,V.int .u64 src.hash])],1⟩ _;unfold F411 at hF;obtain⟨x1,gx1,hF⟩:=bS hF;have w2:xans A 416 [V.isl (src.code.map enc),V.int .i64 src.at_,V.int .u64 src.hash] [V.int .i64 14]=some (V.int .i64 x1.a,[V.isl (x1.b.code.map enc),V.int .i64 x1.b.at_,V.int .u64 x1.b.hash]):=s416 src 14 gx1;by_cases c3:x1.a=0
 ·rw[if_pos c3]at hF
  obtain⟨x4,gx4,hF⟩:=bS hF;have wx4:=qy gx4;obtain⟨x5,gx5,hF⟩:=bS hF;have w6:xans A 412 [V.isl (x1.b.code.map enc),V.int .i64 x1.b.at_,V.int .u64 x1.b.hash] [V.isl [V.int .i64 (-1),V.int .i64 x4,V.int .i64 1099511627776,V.int .i64 (-4611686018427387904)]]=some (V.int .i64 x5.a,[V.isl (x5.b.code.map enc),V.int .i64 x5.b.at_,V.int .u64 x5.b.hash]):=s412 x1.b [(-1),x4,1099511627776,(-4611686018427387904)] gx5;cases hF;simp only[simprocAttr,R0,b411,qf,qf, *];exact zp (by simp only[simprocAttr,R0,qe,p411,Rs.ev,qb,qf,qf, *])
 ·rw[if_neg c3]at hF
  obtain⟨x7,gx7,hF⟩:=bS hF;have wx7:=qy gx7;obtain⟨x8,gx8,hF⟩:=bS hF;have w9:xans A 416 [V.isl (x1.b.code.map enc),V.int .i64 x1.b.at_,V.int .u64 x1.b.hash] [V.int .i64 x7]=some (V.int .i64 x8.a,[V.isl (x8.b.code.map enc),V.int .i64 x8.b.at_,V.int .u64 x8.b.hash]):=s416 x1.b x7 gx8;cases hF;simp only[simprocAttr,R0,b411,qf,qf, *];exact zp (by simp only[simprocAttr,R0,qe,p411,Rs.ev,qb,qf,qf, *])
def F393(a0:List U8):Option (T2 qa Int):=
 (F405 a0).bind fun x1=>
 (F406 x1).bind fun x3=>
 (F411 x3.b 5).bind fun x5=>
 (F412 x5.b [0,1,1,2,x5.a]).bind fun x7=>
 some ⟨x3.a,x7.a⟩
theorem s393(a0:List U8){r:T2 qa Int}(hF:F393 a0=some r):ans A 393 [V.isl (a0.map enc)]=some (EncR.enc r):=by
 refine qA (f:=p393) rfl rfl rfl fun e hl he=>?_;have h0_0:e.at 0=V.isl (a0.map enc):=he 0 _ rfl;have hl_0:e.length=14:=hl;clear he hl;show W A b393 e ⟨[],0⟩ _;unfold F393 at hF;obtain⟨x1,gx1,hF⟩:=bS hF;have w2:res A 405 [V.isl (a0.map enc)] ⟨[(0,some [V.int .i64 0,V.nils,V.nils])],1⟩=some (V.ptr 1 1 0,⟨[(0,some [V.int .i64 0,V.nils,V.nils]),(1,some [V.isl (x1.code.map enc),V.int .i64 x1.at_,V.int .u64 x1.hash])],2⟩):=by
  obtain⟨_,w,rfl⟩:=d405 a0 gx1 [(0,some [V.int .i64 0,V.nils,V.nils])] 1;exact w
 obtain⟨x3,gx3,hF⟩:=bS hF;have w4:xans A 406 [V.isl (x1.code.map enc),V.int .i64 x1.at_,V.int .u64 x1.hash] []=some ((eC x3.a),[V.isl (x3.b.code.map enc),V.int .i64 x3.b.at_,V.int .u64 x3.b.hash]):=s406 x1 gx3;obtain⟨x5,gx5,hF⟩:=bS hF;have w6:xans A 411 [V.isl (x3.b.code.map enc),V.int .i64 x3.b.at_,V.int .u64 x3.b.hash] [V.int .i64 5]=some (V.int .i64 x5.a,[V.isl (x5.b.code.map enc),V.int .i64 x5.b.at_,V.int .u64 x5.b.hash]):=s411 x3.b 5 gx5;obtain⟨x7,gx7,hF⟩:=bS hF;have w8:xans A 412 [V.isl (x5.b.code.map enc),V.int .i64 x5.b.at_,V.int .u64 x5.b.hash] [V.isl [V.int .i64 0,V.int .i64 1,V.int .i64 1,V.int .i64 2,V.int .i64 x5.a]]=some (V.int .i64 x7.a,[V.isl (x7.b.code.map enc),V.int .i64 x7.b.at_,V.int .u64 x7.b.hash]):=s412 x5.b [0,1,1,2,x5.a] gx7;cases hF;simp only[simprocAttr,R0,b393,qv,qf,qf,qf, *];exact qd (by simp only[simprocAttr,R0,qe,p393,Rs.ev,qb,qv,qf,qf,qf, *])
def F179(a0:Int):Option Int:=
 (remI a0 2).bind fun x1=>
 (chk (x1*2)).bind fun x3=>
 (chk (1 - x3)).bind fun x4=>
 some x4
theorem s179(a0:Int){r:Int}(hF:F179 a0=some r):ans A 179 [V.int .i64 a0]=some (enc r):=by
 refine qA (f:=p179) rfl rfl rfl fun e hl he=>?_;have h0_0:e.at 0=V.int .i64 a0:=he 0 _ rfl;have hl_0:e.length=7:=hl;clear he hl;show W A b179 e ⟨[],0⟩ _;unfold F179 at hF;obtain⟨x1,gx1,hF⟩:=bS hF;obtain⟨w2a,w2b⟩:=rem_w gx1;obtain⟨x3,gx3,hF⟩:=bS hF;have wx3:=qy gx3;obtain⟨x4,gx4,hF⟩:=bS hF;have wx4:=qy gx4;cases hF;simp only[simprocAttr,R0,b179, *];exact qd (by simp only[simprocAttr,R0,qe,p179,Rs.ev,qb, *])
def F413(p:Int)(k:Int)(n r pl v:Int)(s:List (List (List Int))):Option (List (List (List Int))):=(chk (n+k)).bind fun n1=>(F179 k).bind fun g=>(chk (g*v)).bind fun w=> F75 p n1 r pl w s
theorem st413(k:Int)(p:Int)(dv m:V)(N c1:Nat)(K:Ks)(R:List (Nat×Option (List V))→Prop)(hN:¬K N)(hR:∀E E',R E→(∀k,k < E.length→¬K k→E'[k]? =E[k]?)→R E'):Step4 413 [] [V.ptr N c1 0,V.iptr [V.int .i64 k]] (S75 p dv m N c1 K R) (fun n r pl v s=> F413 p k n r pl v s) where
 call:=by
  rintro n r pl v s s' hF E c h;have h3:=h.2.2;unfold F413 at hF;obtain⟨n1,gn,hF⟩:=bS hF;have wn:=qy gn;obtain⟨g,gg,hF⟩:=bS hF;have wg:ans A 179 [V.int .i64 k]=some (V.int .i64 g):=s179 k gg;obtain⟨w,gw,hF⟩:=bS hF;have ww:=qy gw;obtain⟨E',c',q1,q2⟩:=sc75 hN hR hF c h;have key:∃h',res A 413 [V.int .i64 n,V.int .i64 r,V.int .i64 pl,V.int .i64 v,V.ptr N c1 0,V.iptr [V.int .i64 k]] ⟨E,c⟩=some (V.undef,h')∧h'=⟨E',c'⟩:=by
   refine res_ex (f:=p413) rfl rfl rfl fun e hl he=>?_;have h0_0:e.at 0=V.int .i64 n:=he 0 _ rfl;have h1_0:e.at 1=V.int .i64 r:=he 1 _ rfl;have h2_0:e.at 2=V.int .i64 pl:=he 2 _ rfl;have h3_0:e.at 3=V.int .i64 v:=he 3 _ rfl;have h4_0:e.at 4=V.ptr N c1 0:=he 4 _ rfl;have h5_0:e.at 5=V.iptr [V.int .i64 k]:=he 5 _ rfl;have hl_0:e.length=21:=hl;clear he hl;show W A b413 e ⟨E,c⟩ _;simp only[simprocAttr,R0,b413,h3,qv,q1, *];refine ai (fun _=> trivial) ?_;simp only[simprocAttr,R1,qe,p413,mapO];rfl
  obtain⟨_,k1,rfl⟩:=key;exact⟨E',c',k1,q2⟩
 pad:=fun s E x h=> sp75 hR h
def F394(x:qa)(k:Int):Option (T2 qa Int):=(F42 x).bind fun t=> if t=true then(F56 k 0 5).bind fun b=> if b=true then(F86 x).bind fun tp=>(chk (tp+k)).bind fun s=> if 5 < s then some ⟨⟨0,[],[]⟩,3⟩else
 (mkL 8 k (0:Int)).bind fun l0=>(app 8 l0 x.Dims).bind fun d=>(F74 x.Prime d).bind fun o=>(F85 x.Maps (fun n r pl v s=> F413 o.Prime k n r pl v s) o.Maps).bind fun m=> some ⟨⟨o.Prime,o.Dims,m⟩,0⟩
 else some ⟨⟨0,[],[]⟩,2⟩else some ⟨⟨0,[],[]⟩,1⟩
theorem d394(x:qa)(k:Int){r:T2 qa Int}(hF:F394 x k=some r):∃v h',res A 394 [(eC x),V.int .i64 k] Heap.empty=some (v,h')∧∃vs K,v=V.tup vs∧repF h' vs [⟨r.a⟩,⟨r.b⟩] K:=by
 refine res_dp (f:=p394) rfl rfl rfl fun e hl he=>?_;have h0_0:e.at 0=(eC x):=he 0 _ rfl;have h1_0:e.at 1=V.int .i64 k:=he 1 _ rfl;have hl_0:e.length=36:=hl;clear he hl;have h_0:=ai hl_0 (ai h0_0 h1_0);show W A b394 e ⟨[],0⟩ _;unfold F394 at hF;have hz:∀h:Heap,Deep.rep h (V.agg [V.int .i64 0,V.nils,V.nils]) (⟨0,[],[]⟩:qa) (fun _=> False∨False):=fun h=>⟨_,rfl,rec3 (K1:=fun _=> False) (K2:=fun _=> False) (rep_nils _) (rep_nils _) (fun _ q _=> q)⟩;obtain⟨t,gt,hF⟩:=bS hF;have wt:ans A 42 [(eC x)]=some (V.bool t):=s42 x gt;cases t with
 |false=>
  rw[if_neg wD]at hF;cases hF;simp only[simprocAttr, -Int.reduceNatCast',R0,b394,h_0,wt];refine ai (fun _=> trivial) ⟨V.tup [V.agg [V.int .i64 0,V.nils,V.nils],V.int .i64 1],?_,_,_,rfl,jg (hz _) _⟩;simp only[simprocAttr, -Int.reduceNatCast',R0,qe,p394,Rs.ev,hl_0]
 |true=>
  rw[if_pos rfl]at hF;obtain⟨b,gb,hF⟩:=bS hF;have wb:ans A 56 [V.int .i64 k,V.int .i64 0,V.int .i64 5]=some (V.bool b):=s56 k 0 5 gb;cases b with
  |false=>
   rw[if_neg wD]at hF;cases hF;simp only[simprocAttr, -Int.reduceNatCast',R0,b394,h_0,wt,wb];refine ai (fun _=> trivial) ⟨V.tup [V.agg [V.int .i64 0,V.nils,V.nils],V.int .i64 2],?_,_,_,rfl,jg (hz _) _⟩;simp only[simprocAttr, -Int.reduceNatCast',R0,qe,p394,Rs.ev,hl_0]
  |true=>
  rw[if_pos rfl]at hF;obtain⟨tp,gtp,hF⟩:=bS hF;have wtp:ans A 86 [(eC x)]=some (V.int .i64 tp):=s86 x gtp;obtain⟨s,gs,hF⟩:=bS hF;have ws:=qy gs;by_cases c5:5 < s
  ·rw[if_pos c5]at hF
   cases hF;simp only[simprocAttr, -Int.reduceNatCast',R0,b394,h_0,wt,wb,wtp,ws,eq_true c5];refine ai (fun _=> trivial) ⟨V.tup [V.agg [V.int .i64 0,V.nils,V.nils],V.int .i64 3],?_,_,_,rfl,jg (hz _) _⟩;simp only[simprocAttr, -Int.reduceNatCast',R0,qe,p394,Rs.ev,hl_0]
  rw[if_neg c5]at hF;obtain⟨l0,gl0,hF⟩:=bS hF;obtain⟨w6a,w6b,w6c,w6d,w6e⟩:=mkL_w gl0;replace w6e:(List.replicate (Int.toNat k) [V.int .i64 0]).flatten=List.map enc l0:=w6e;obtain⟨d,gd,hF⟩:=bS hF;have wap:=fun a b c d e=> qD (α:=Int) (n:=Int.toNat k) (m:=x.Dims.length) (ds:=List.map enc x.Dims) gd (by first|rfl|simp only[w6d]) (by first|rfl|simp only[w6d]) rfl a b c d e;have wal:=qR gd;obtain⟨o,go,hF⟩:=bS hF;obtain⟨m3,gm,hF⟩:=bS hF;cases hF;obtain⟨_,⟨E1,c1⟩,w1,e1,e2,m,K,rfl,t1,t2,t3,t4⟩:=d74 x.Prime d go [(0,none),(0,none),(2,some [V.int .i64 0,V.nils,V.nils]),(appU x.Dims.length 3 4,some (d.map enc))] (appC x.Dims.length 4) (dk:=3) (du:=(appU x.Dims.length 3 4)) rfl;simp only[vD,vF,wS,Nat.reduceAdd]at t2 t3 t4;have a1:E1[2]? =some (2,some [V.int .i64 0,V.nils,V.nils]):=(t3 2 (by decide)).trans rfl;have a2:E1[3]? =some ((appU x.Dims.length 3 4),some (d.map enc)):=(t3 3 (by decide)).trans rfl;have hKN:¬K E1.length:=fun q=> by have:=Deep.bd t1 q; simp at this
  have hK3:∀k,K k→4≤k:=fun k q=> by have:=t2 k q; omega
  have hR:∀E E',(fun E:List (Nat×Option (List V))=> E[2]? =some (2,some [V.int .i64 0,V.nils,V.nils])∧E[3]? =some ((appU x.Dims.length 3 4),some (d.map enc))) E→(∀k,k < E.length→¬K k→E'[k]? =E[k]?)→(fun E:List (Nat×Option (List V))=> E[2]? =some (2,some [V.int .i64 0,V.nils,V.nils])∧E[3]? =some ((appU x.Dims.length 3 4),some (d.map enc))) E':=fun E E' h hk=>
   ⟨(hk 2 (List.getElem?_eq_some_iff.1 h.1).1 (fun q=> by have:=hK3 _ q; omega)).trans h.1,(hk 3 (List.getElem?_eq_some_iff.1 h.2).1 (fun q=> by have:=hK3 _ q; omega)).trans h.2⟩
  have S0:S75 o.Prime (V.sl 3 (appU x.Dims.length 3 4) 0 d.length 1) m E1.length c1 K (fun E:List (Nat×Option (List V))=> E[2]? =some (2,some [V.int .i64 0,V.nils,V.nils])∧E[3]? =some ((appU x.Dims.length 3 4),some (d.map enc))) o.Maps (E1++[(c1,some [V.int .i64 o.Prime,V.sl 3 (appU x.Dims.length 3 4) 0 d.length 1,m])]):=
   ⟨Deep.frame t1 fun k q=> List.getElem?_append_left (Deep.bd t1 q),⟨(List.getElem?_append_left (List.getElem?_eq_some_iff.1 a1).1).trans a1,(List.getElem?_append_left (List.getElem?_eq_some_iff.1 a2).1).trans a2⟩,qB _ _⟩
  obtain⟨⟨E2,c2⟩,w2,S1,⟨S3,S4⟩,S5⟩:=e85 (st413 k o.Prime (V.sl 3 (appU x.Dims.length 3 4) 0 d.length 1) m E1.length c1 K _ hKN hR) x gm _ (c1+1) S0;simp only at S1 S3 S4 S5;have hE1:2 < E2.length:=(List.getElem?_eq_some_iff.1 S3).1;simp only[simprocAttr, -Int.reduceNatCast',R0,b394,h_0,wt,wb,wtp,ws,eq_false c5,w6a,w6b,w6c,w6e,wap,qv,w1,qB,jw,w2,S5,S3];have hq:(E2.set 2 (2,some [V.int .i64 o.Prime,V.sl 3 (appU x.Dims.length 3 4) 0 d.length 1,m]))[3]? =some ((appU x.Dims.length 3 4),some (d.map enc)):=(qo (by decide)).trans S4;have hd:Deep.rep ⟨E2.set 2 (2,some [V.int .i64 o.Prime,V.sl 3 (appU x.Dims.length 3 4) 0 d.length 1,m]),c2⟩ (V.sl 3 (appU x.Dims.length 3 4) 0 d.length 1) o.Dims (fun k=> k=3):=by
   rw[e2]; exact js hq fun k=> vY
  have hf:Deep.rep ⟨E2.set 2 (2,some [V.int .i64 o.Prime,V.sl 3 (appU x.Dims.length 3 4) 0 d.length 1,m]),c2⟩ (V.agg [V.int .i64 o.Prime,V.sl 3 (appU x.Dims.length 3 4) 0 d.length 1,m]) (⟨o.Prime,o.Dims,m3⟩:qa) (fun k=> k=3∨K k):=
   ⟨_,rfl,rec3 (K1:=fun k=> k=3) (K2:=K) hd (Deep.frame S1 fun k q=> qo (by have:=hK3 _ q; omega)) (fun k p q=> by have:=hK3 _ q; omega)⟩
  exact ai (fun _=> trivial) ⟨V.tup [V.agg [V.int .i64 o.Prime,V.sl 3 (appU x.Dims.length 3 4) 0 d.length 1,m],V.int .i64 0],by simp only[simprocAttr, -Int.reduceNatCast',R0,qe,p394,Rs.ev,h_0,qk hE1],_,_,rfl,jg hf _⟩
theorem s394(x:qa)(k:Int){r:T2 qa Int}(hF:F394 x k=some r):ans A 394 [(eC x),V.int .i64 k]=some (EncR.enc r):=by
 obtain⟨_,h',h1,vs,K,rfl,h2⟩:=d394 x k hF;exact ans_tup (ss:=[1,1,1]) (fits_pair rfl (by decide)) h1 h2
def F414_1_B(a0:qa)(a1:Int)(v6_1:Int)(s:(List Int)×(List (List (List Int)))×Int):Option (((List Int)×(List (List (List Int)))×Int)⊕((List Int)×(List (List (List Int)))×Int)):=
 match s with
 |(o2_1,o3_1,q4_0_1)=>
  (app 8 o2_1 [0]).bind fun l7=>
  if 0 < v6_1 then
   (app 24 o3_1 ([([]:List (List Int))])).bind fun l10=>
   some (.inl (l7,l10,q4_0_1))
  else
   some (.inl (l7,o3_1,q4_0_1))
def F414_1_D(a0:qa)(a1:Int)(v6_1:Int)(s:(List Int)×(List (List (List Int)))×Int):Option ((List Int)×(List (List (List Int)))×Int):=
 match s with
 |(o2_1,o3_1,q4_0_1)=>
  some (o2_1,o3_1,q4_0_1)
def kk(a0:qa)(a1:Int)(o3_2:List (List (List Int)))(q4_0_2:Int)(v7_2:Int)(x17:Int)(l20:List Int)(s:(List (List Int))×Int):Option (((List (List Int))×Int)⊕((List (List Int)))):=
 match s with
 |(o6_3,v9_3)=>
  if v9_3 < ((o6_3.length:Nat):Int)then
   (getI o6_3 v9_3).bind fun x30=>
   (mkL 8 (x30.length:Int) 0).bind fun l32=>
   (remI a1 2).bind fun x34=>
   (chk (2*x34)).bind fun x36=>
   (chk (x36 - 1)).bind fun x37=>
   (F136 a0.Prime l32 x30 x37).bind fun x38=>
   (setI o6_3 v9_3 x38).bind fun l40=>
   (chk (v9_3+1)).bind fun x42=>
   some (.inl (l40,x42))
  else
   some (.inr o6_3)
def F414_2_B(a0:qa)(a1:Int)(v7_2:Int)(s:(List Int)×(List (List (List Int)))×Int):Option (((List Int)×(List (List (List Int)))×Int)⊕((List Int)×(List (List (List Int)))×Int)):=
 match s with
 |(o2_2,o3_2,q4_0_2)=>
  (getI a0.Dims v7_2).bind fun x17=>
  (app 8 o2_2 [x17]).bind fun l20=>
  (F76 a0 v7_2).bind fun x21=>
  (F95 x21).bind fun x23=>
  (ze (kk a0 a1 o3_2 q4_0_2 v7_2 x17 l20) (x23,0)).bind fun zo6_3=>
  (chk (v7_2+a1)).bind fun x44=>
  if 0 < x44 then
   (app 24 o3_2 [zo6_3]).bind fun l47=>
   some (.inl (l20,l47,q4_0_2))
  else
   some (.inl (l20,o3_2,q4_0_2))
def F414_2_D(a0:qa)(a1:Int)(v7_2:Int)(s:(List Int)×(List (List (List Int)))×Int):Option ((List Int)×(List (List (List Int)))×Int):=
 match s with
 |(o2_2,o3_2,q4_0_2)=>
  some (o2_2,o3_2,q4_0_2)
def F414(a0:qa)(a1:Int):Option qa:=
 (forR 0 a1 (F414_1_B a0 a1) (F414_1_D a0 a1) ([],[],a0.Prime)).bind fun t11=> match t11 with
  |(zo2_1,zo3_1,zq4_0_1)=>
   (forR 0 (a0.Dims.length:Int) (F414_2_B a0 a1) (F414_2_D a0 a1) (zo2_1,zo3_1,zq4_0_1)).bind fun t48=> match t48 with
    |(zo2_2,zo3_2,zq4_0_2)=>
     some ⟨zq4_0_2,zo2_2,zo3_2⟩
def I414_1(a0:qa)(a1:Int)(v6_1:Int)(s:(List Int)×(List (List (List Int)))×Int)(e:Env)(h:Heap):Prop:=
 match s with
 |(o2_1,o3_1,q4_0_1)=>
  ∃u2 u3 k4:Nat,h=⟨[(0,none),(1,some [V.int .i64 0,V.nils,V.nils]),(u2,some (o2_1.map enc)),(u3,some (o3_1.map enc)),(4,some [V.int .i64 q4_0_1,V.sl 2 u2 0 o2_1.length 1,V.sl 3 u3 0 o3_1.length 1])],k4⟩∧e.length=91∧e.at 1=V.int .i64 a1∧e.at 2=V.iptr [V.int .i64 a0.Prime,V.isl (a0.Dims.map enc),V.isl (a0.Maps.map enc)]∧e.at 4=V.ptr 1 1 0∧e.at 5=V.ptr 4 4 0∧e.at 6=V.int .i64 v6_1
def P414_1(a0:qa)(a1:Int)(t:(List Int)×(List (List (List Int)))×Int)(x:Ex)(e:Env)(h:Heap):Prop:=
 match t with
 |(zo2_1,zo3_1,zq4_0_1)=>
  x= .normal∧∃u2 u3 k4:Nat,h=⟨[(0,none),(1,some [V.int .i64 0,V.nils,V.nils]),(u2,some (zo2_1.map enc)),(u3,some (zo3_1.map enc)),(4,some [V.int .i64 zq4_0_1,V.sl 2 u2 0 zo2_1.length 1,V.sl 3 u3 0 zo3_1.length 1])],k4⟩∧e.length=91∧e.at 1=V.int .i64 a1∧e.at 2=V.iptr [V.int .i64 a0.Prime,V.isl (a0.Dims.map enc),V.isl (a0.Maps.map enc)]∧e.at 4=V.ptr 1 1 0∧e.at 5=V.ptr 4 4 0
theorem l414_1(a0:qa)(a1:Int){lo:Int}{s:(List Int)×(List (List (List Int)))×Int}{t:(List Int)×(List (List (List Int)))×Int}(hF:forR lo a1 (F414_1_B a0 a1) (F414_1_D a0 a1) s=some t){e:Env}{h:Heap}(hI:I414_1 a0 a1 lo s e h):W A c414_1 e h (P414_1 a0 a1 t):=by
 show W A (.block 0 (.loop false b414_1)) e h _;rw[qm];refine qJ hF 5 (by rcases s with⟨_,_,_⟩; obtain⟨_,_,_,rfl,_⟩:=hI; rfl) (I414_1 a0 a1) hI ?_ ?_
 ·rintro v6_1 ⟨o2_1,o3_1,q4_0_1⟩ e h ⟨u2,u3,k4,rfl,h_1⟩ hlt hw o ho
  unfold F414_1_B at ho;dsimp only at ho;obtain⟨l7,gl7,ho⟩:=bS ho;have w6:=fun a b c d e=> qD (α:=Int) (n:=o2_1.length) (m:=1) (ds:=[V.int .i64 0]) gl7 (by first|rfl|simp) (by first|rfl|simp) rfl a b c d e;have w6l:=qR gl7;by_cases c8:0 < v6_1
  ·rw[if_pos c8]at ho
   obtain⟨l10,gl10,ho⟩:=bS ho;have w9:=fun a b c d e=> qD (α:=List (List Int)) (n:=o3_1.length) (m:=1) (ds:=[V.isl []]) gl10 (by first|rfl|simp) (by first|rfl|simp) rfl a b c d e;have w9l:=qR gl10;cases ho;simp only[simprocAttr,R0,b414_1,h_1,eq_true hlt,hw,w6,eq_true c8,w9];refine ai rfl (ei _ (ei _ (ei _ (ai rfl ?_))));simp only[simprocAttr,R0,h_1,eq_true hlt,hw,w6,eq_true c8,w9]
  ·rw[if_neg c8]at ho
   cases ho;simp only[simprocAttr,R0,b414_1,h_1,eq_true hlt,hw,w6,eq_false c8];refine ai rfl (ei _ (ei _ (ei _ (ai rfl ?_))));simp only[simprocAttr,R0,h_1,eq_true hlt,hw,w6,eq_false c8]
 ·rintro v6_1 ⟨o2_1,o3_1,q4_0_1⟩ e h ⟨u2,u3,k4,rfl,h_1⟩ hge t1 ho
  unfold F414_1_D at ho;dsimp only at ho;cases ho;simp only[simprocAttr,R0,b414_1,h_1,eq_false hge];intro ht; subst ht;refine ai rfl (ei _ (ei _ (ei _ (ai rfl ?_))));simp only[simprocAttr,R0,h_1,eq_false hge]
def I414_3(a0:qa)(a1:Int)(o3_2:List (List (List Int)))(q4_0_2:Int)(v7_2:Int)(x17:Int)(l20:List Int)(u13 u14 k15:Nat)(s:(List (List Int))×Int)(e:Env)(h:Heap):Prop:=
 match s with
 |(o6_3,v9_3)=>
  ∃u26 k27:Nat,h=⟨[(0,none),(1,some [V.int .i64 0,V.nils,V.nils]),((appU 1 u13 (k15+1)),some (l20.map enc)),(u14,some (o3_2.map enc)),(4,some [V.int .i64 q4_0_2,V.sl 2 (appU 1 u13 (k15+1)) 0 l20.length 1,V.sl 3 u14 0 o3_2.length 1]),(k15,some [V.int .i64 x17]),(u26,some (o6_3.map enc))],k27⟩∧e.length=91∧e.at 1=V.int .i64 a1∧e.at 2=V.iptr [V.int .i64 a0.Prime,V.isl (a0.Dims.map enc),V.isl (a0.Maps.map enc)]∧e.at 4=V.ptr 1 1 0∧e.at 5=V.ptr 4 4 0∧e.at 7=V.int .i64 v7_2∧e.at 8=V.sl 6 u26 0 o6_3.length 1∧e.at 9=V.int .i64 v9_3
def P414_3(a0:qa)(a1:Int)(o3_2:List (List (List Int)))(q4_0_2:Int)(v7_2:Int)(x17:Int)(l20:List Int)(u13 u14 k15:Nat)(zo6_3:(List (List Int)))(x:Ex)(e:Env)(h:Heap):Prop:=
 x= .normal∧∃u26 k27:Nat,h=⟨[(0,none),(1,some [V.int .i64 0,V.nils,V.nils]),((appU 1 u13 (k15+1)),some (l20.map enc)),(u14,some (o3_2.map enc)),(4,some [V.int .i64 q4_0_2,V.sl 2 (appU 1 u13 (k15+1)) 0 l20.length 1,V.sl 3 u14 0 o3_2.length 1]),(k15,some [V.int .i64 x17]),(u26,some (zo6_3.map enc))],k27⟩∧e.length=91∧e.at 1=V.int .i64 a1∧e.at 2=V.iptr [V.int .i64 a0.Prime,V.isl (a0.Dims.map enc),V.isl (a0.Maps.map enc)]∧e.at 4=V.ptr 1 1 0∧e.at 5=V.ptr 4 4 0∧e.at 7=V.int .i64 v7_2∧e.at 8=V.sl 6 u26 0 zo6_3.length 1
theorem l414_3(a0:qa)(a1:Int)(o3_2:List (List (List Int)))(q4_0_2:Int)(v7_2:Int)(x17:Int)(l20:List Int)(u13 u14 k15:Nat){s:(List (List Int))×Int}{t:(List (List Int))}(hF:ze (kk a0 a1 o3_2 q4_0_2 v7_2 x17 l20) s=some t){e:Env}{h:Heap}(hI:I414_3 a0 a1 o3_2 q4_0_2 v7_2 x17 l20 u13 u14 k15 s e h):W A c414_3 e h (P414_3 a0 a1 o3_2 q4_0_2 v7_2 x17 l20 u13 u14 k15 t):=by
 show W A (.block 4 (.loop false b414_3)) e h _;rw[qm];refine jG hF 7 (by rcases s with⟨_,_⟩; obtain⟨_,_,rfl,_⟩:=hI; rfl) (I414_3 a0 a1 o3_2 q4_0_2 v7_2 x17 l20 u13 u14 k15) hI ?_
 ·rintro⟨o6_3,v9_3⟩ e h ⟨u26,k27,rfl,h_25⟩ o ho
  unfold kk at ho;dsimp only at ho;by_cases c29:v9_3 < ((o6_3.length:Nat):Int)
  ·rw[if_pos c29]at ho
   obtain⟨x30,gx30,ho⟩:=bS ho;obtain⟨w31a,w31b⟩:=qh gx30;have w31c:=qY gx30;have w31d:List.drop (Int.toNat v9_3) (o6_3.map enc)=(V.isl (x30.map enc))::List.drop ((Int.toNat v9_3)+1) (o6_3.map enc):=drop_enc w31b;obtain⟨l32,gl32,ho⟩:=bS ho;obtain⟨w33a,w33b,w33c,w33d,w33e⟩:=mkL_w gl32;replace w33e:(List.replicate (Int.toNat (x30.length:Int)) [V.int .i64 0]).flatten=List.map enc l32:=w33e;obtain⟨x34,gx34,ho⟩:=bS ho;obtain⟨w35a,w35b⟩:=rem_w gx34;obtain⟨x36,gx36,ho⟩:=bS ho;have wx36:=qy gx36;obtain⟨x37,gx37,ho⟩:=bS ho;have wx37:=qy gx37;obtain⟨x38,gx38,ho⟩:=bS ho;have w39:tans A 136 [1] [V.int .i64 a0.Prime,V.isl (l32.map enc),V.isl (x30.map enc),V.int .i64 x37]=some (V.isl (x38.map enc)):=t136 a0.Prime l32 x30 x37 gx38;have w39t:=zb (α:=Int) x38;obtain⟨l40,gl40,ho⟩:=bS ho;obtain⟨w41a,w41b,w41c,w41d,w41e⟩:=xp gl40;replace w41e:List.take (Int.toNat v9_3) (o6_3.map enc)++[V.isl (x38.map enc)]++List.drop (Int.toNat v9_3+1) (o6_3.map enc)=List.map enc l40:=w41e;obtain⟨x42,gx42,ho⟩:=bS ho;have wx42:=qy gx42;cases ho;simp only[simprocAttr, -Int.reduceNatCast',R0,b414_3,frzs (α:=Int) l32,jN (α:=Int) (l:=l32) (n:=(Int.toNat (x30.length:Int))) (by first|rfl|simp only[w33d]),jZ (α:=Int) (l:=l32) (n:=(Int.toNat (x30.length:Int))) (by first|rfl|simp only[w33d]),bare_one (α:=Int) x38,zk (α:=Int) x38, *];refine ai rfl (ei _ (ei _ (ai rfl ?_)));simp only[simprocAttr, -Int.reduceNatCast',R0,frzs (α:=Int) l32,jN (α:=Int) (l:=l32) (n:=(Int.toNat (x30.length:Int))) (by first|rfl|simp only[w33d]),jZ (α:=Int) (l:=l32) (n:=(Int.toNat (x30.length:Int))) (by first|rfl|simp only[w33d]),bare_one (α:=Int) x38,zk (α:=Int) x38, *]
  ·rw[if_neg c29]at ho
   cases ho;simp only[simprocAttr, -Int.reduceNatCast',R0,b414_3, *];intro ht; subst ht;simp only[simprocAttr, -Int.reduceNatCast',RR,RB];refine ai rfl (ei _ (ei _ (ai rfl ?_)));simp only[simprocAttr, -Int.reduceNatCast',R0, *]
def I414_2(a0:qa)(a1:Int)(v7_2:Int)(s:(List Int)×(List (List (List Int)))×Int)(e:Env)(h:Heap):Prop:=
 match s with
 |(o2_2,o3_2,q4_0_2)=>
  ∃u13 u14 k15:Nat,h=⟨[(0,none),(1,some [V.int .i64 0,V.nils,V.nils]),(u13,some (o2_2.map enc)),(u14,some (o3_2.map enc)),(4,some [V.int .i64 q4_0_2,V.sl 2 u13 0 o2_2.length 1,V.sl 3 u14 0 o3_2.length 1])],k15⟩∧e.length=91∧e.at 1=V.int .i64 a1∧e.at 2=V.iptr [V.int .i64 a0.Prime,V.isl (a0.Dims.map enc),V.isl (a0.Maps.map enc)]∧e.at 4=V.ptr 1 1 0∧e.at 5=V.ptr 4 4 0∧e.at 7=V.int .i64 v7_2
def P414_2(a0:qa)(a1:Int)(t:(List Int)×(List (List (List Int)))×Int)(x:Ex)(e:Env)(h:Heap):Prop:=
 match t with
 |(zo2_2,zo3_2,zq4_0_2)=>
  x= .normal∧∃u13 u14 k15:Nat,h=⟨[(0,none),(1,some [V.int .i64 0,V.nils,V.nils]),(u13,some (zo2_2.map enc)),(u14,some (zo3_2.map enc)),(4,some [V.int .i64 zq4_0_2,V.sl 2 u13 0 zo2_2.length 1,V.sl 3 u14 0 zo3_2.length 1])],k15⟩∧e.length=91∧e.at 4=V.ptr 1 1 0∧e.at 5=V.ptr 4 4 0
theorem l414_2(a0:qa)(a1:Int){lo:Int}{s:(List Int)×(List (List (List Int)))×Int}{t:(List Int)×(List (List (List Int)))×Int}(hF:forR lo (a0.Dims.length:Int) (F414_2_B a0 a1) (F414_2_D a0 a1) s=some t){e:Env}{h:Heap}(hI:I414_2 a0 a1 lo s e h):W A c414_2 e h (P414_2 a0 a1 t):=by
 show W A (.block 2 (.loop false b414_2)) e h _;rw[qm];refine qJ hF 5 (by rcases s with⟨_,_,_⟩; obtain⟨_,_,_,rfl,_⟩:=hI; rfl) (I414_2 a0 a1) hI ?_ ?_
 ·rintro v7_2 ⟨o2_2,o3_2,q4_0_2⟩ e h ⟨u13,u14,k15,rfl,h_12⟩ hlt hw o ho
  unfold F414_2_B at ho;dsimp only at ho;obtain⟨x17,gx17,ho⟩:=bS ho;obtain⟨w18a,w18b⟩:=qh gx17;obtain⟨l20,gl20,ho⟩:=bS ho;have w19:=fun a b c d e=> qD (α:=Int) (n:=o2_2.length) (m:=1) (ds:=[V.int .i64 x17]) gl20 (by first|rfl|simp) (by first|rfl|simp) rfl a b c d e;have w19l:=qR gl20;obtain⟨x21,gx21,ho⟩:=bS ho;have w22:ans A 76 [(eC a0),V.int .i64 v7_2]=some (V.isl (x21.map enc)):=s76 a0 v7_2 gx21;obtain⟨x23,gx23,ho⟩:=bS ho;have w24:tans A 95 [1] [V.isl (x21.map enc)]=some (V.isl (x23.map enc)):=t95 x21 gx23;have w24t:=zb (α:=List Int) x23;obtain⟨zo6_3,gt43,ho⟩:=bS ho;simp only[simprocAttr,R0,b414_2,h_12,eq_true hlt,hw,w18a,w18b,w19,w22,w24,w24t];refine W.mono (l414_3 a0 a1 o3_2 q4_0_2 v7_2 x17 l20 u13 u14 k15 gt43 (ei _ (ei _ (ai rfl ?_)))) ?_
  ·simp only[simprocAttr,R0,h_12,eq_true hlt,hw,w18a,w18b,w19,w22,w24,w24t]
  rintro _ e _ ⟨rfl,u26,k27,rfl,h_28⟩;obtain⟨x44,gx44,ho⟩:=bS ho;have wx44:=qy gx44;by_cases c45:0 < x44
  ·rw[if_pos c45]at ho
   obtain⟨l47,gl47,ho⟩:=bS ho;have w46:=fun a b c d e=> qD (α:=List (List Int)) (n:=o3_2.length) (m:=1) (ds:=[V.isl (zo6_3.map enc)]) gl47 (by first|rfl|simp) (by first|rfl|simp) rfl a b c d e;have w46l:=qR gl47;cases ho;simp only[simprocAttr,R0,h_28,eq_true hlt,hw,wx44,eq_true c45,zk (α:=List Int) zo6_3,w46];refine ai rfl (ei _ (ei _ (ei _ (ai rfl ?_))));simp only[simprocAttr,R0,h_28,eq_true hlt,hw,wx44,eq_true c45,zk (α:=List Int) zo6_3,w46]
  ·rw[if_neg c45]at ho
   cases ho;simp only[simprocAttr,R0,h_28,eq_true hlt,hw,wx44,eq_false c45];refine ai rfl (ei _ (ei _ (ei _ (ai rfl ?_))));simp only[simprocAttr,R0,h_28,eq_true hlt,hw,wx44,eq_false c45]
 ·rintro v7_2 ⟨o2_2,o3_2,q4_0_2⟩ e h ⟨u13,u14,k15,rfl,h_12⟩ hge t1 ho
  unfold F414_2_D at ho;dsimp only at ho;cases ho;simp only[simprocAttr,R0,b414_2,h_12,eq_false hge];intro ht; subst ht;refine ai rfl (ei _ (ei _ (ei _ (ai rfl ?_))));simp only[simprocAttr,R0,h_12,eq_false hge]
theorem s414(a0:qa)(a1:Int){r:qa}(hF:F414 a0 a1=some r):ans A 414 [(eC a0),V.int .i64 a1]=some (enc r):=by
 refine qA (f:=p414) rfl rfl rfl fun e hl he=>?_;have h0_0:e.at 0=(eC a0):=he 0 _ rfl;have h1_0:e.at 1=V.int .i64 a1:=he 1 _ rfl;have hl_0:e.length=91:=hl;clear he hl;show W A b414 e ⟨[],0⟩ _;unfold F414 at hF;obtain⟨⟨zo2_1,zo3_1,zq4_0_1⟩,gt11,hF⟩:=bS hF;dsimp only at hF;simp only[simprocAttr,R0,b414, *];refine W.mono (l414_1 a0 a1 gt11 (ei _ (ei _ (ei _ (ai rfl ?_))))) ?_
 ·simp only[simprocAttr,R0, *]
 rintro _ e _ ⟨rfl,u2,u3,k4,rfl,h_5⟩;obtain⟨⟨zo2_2,zo3_2,zq4_0_2⟩,gt48,hF⟩:=bS hF;dsimp only at hF;simp only[simprocAttr,R0, *];refine W.mono (l414_2 a0 a1 gt48 (ei _ (ei _ (ei _ (ai rfl ?_))))) ?_
 ·simp only[simprocAttr,R0, *]
 rintro _ e _ ⟨rfl,u13,u14,k15,rfl,h_16⟩;cases hF;simp only[simprocAttr,R0, *];exact qd (by simp only[simprocAttr,R0,qe,p414,Rs.ev,qb,frzs (α:=Int) zo2_2,zk (α:=Int) zo2_2,frzs (α:=List (List Int)) zo3_2,zk (α:=List (List Int)) zo3_2, *])
def F395(a0:qa)(a1:Int):Option (T2 qa Int):=
 (F39 a0).bind fun x1=>
 if x1=true then
  (F54 a1 0 5).bind fun x3=>
  if x3=true then
   (chk ((a0.Dims.length:Int)+a1)).bind fun x5=>
   if 6 < x5 then
    some ⟨⟨0,[],[]⟩,3⟩
   else
    (F414 a0 a1).bind fun x7=>
    some ⟨x7,0⟩
  else
   some ⟨⟨0,[],[]⟩,2⟩
 else
  some ⟨⟨0,[],[]⟩,1⟩
theorem s395(a0:qa)(a1:Int){r:T2 qa Int}(hF:F395 a0 a1=some r):ans A 395 [(eC a0),V.int .i64 a1]=some (EncR.enc r):=by
 refine qA (f:=p395) rfl rfl rfl fun e hl he=>?_;have h0_0:e.at 0=(eC a0):=he 0 _ rfl;have h1_0:e.at 1=V.int .i64 a1:=he 1 _ rfl;have hl_0:e.length=27:=hl;clear he hl;have h_0:=ai hl_0 (ai h0_0 h1_0);show W A b395 e ⟨[],0⟩ _;unfold F395 at hF;obtain⟨x1,gx1,hF⟩:=bS hF;have w2:=s39 a0 gx1;cases x1 with
 |true=>
  rw[if_pos rfl]at hF;obtain⟨x3,gx3,hF⟩:=bS hF;have w4:=s54 a1 0 5 gx3;cases x3 with
  |true=>
   rw[if_pos rfl]at hF;obtain⟨x5,gx5,hF⟩:=bS hF;have wx5:=qy gx5;by_cases c6:6 < x5
   ·rw[if_pos c6]at hF
    cases hF;simp only[simprocAttr,R0,b395, *];exact qd (by simp only[simprocAttr,R0,qe,p395,Rs.ev,qb, *])
   ·rw[if_neg c6]at hF
    obtain⟨x7,gx7,hF⟩:=bS hF;have w8:=s414 a0 a1 gx7;cases hF;simp only[simprocAttr,R0,b395, *];exact qd (by simp only[simprocAttr,R0,qe,p395,Rs.ev,qb, *])
  |false=>
   rw[if_neg wD]at hF;cases hF;simp only[simprocAttr,R0,b395, *];exact qd (by simp only[simprocAttr,R0,qe,p395,Rs.ev,qb, *])
 |false=>
  rw[if_neg wD]at hF;cases hF;simp only[simprocAttr,R0,b395, *];exact qd (by simp only[simprocAttr,R0,qe,p395,Rs.ev,qb, *])
def F396(a0:List U8):Option (T2 qa qa):=
 (F405 a0).bind fun x1=>
 (F406 x1).bind fun x3=>
 (F415 x3.b).bind fun x5=>
 (F416 x5.b 14).bind fun x7=>
 if 0 < x7.a then
  (F78 x3.a.Prime).bind fun x10=>
  if x10=true then
   (F417 x7.b x3.a.Prime x5.a.Dims).bind fun x12=>
   some ⟨x3.a,x12.a⟩
  else
   some ⟨x3.a,x5.a⟩
 else
  some ⟨x3.a,x5.a⟩
theorem s396(a0:List U8){r:T2 qa qa}(hF:F396 a0=some r):ans A 396 [V.isl (a0.map enc)]=some (EncR.enc r):=by
 refine qA (f:=p396) rfl rfl rfl fun e hl he=>?_;have h0_0:e.at 0=V.isl (a0.map enc):=he 0 _ rfl;have hl_0:e.length=29:=hl;clear he hl;have h_0:=ai hl_0 h0_0;show W A b396 e ⟨[],0⟩ _;unfold F396 at hF;obtain⟨x1,gx1,hF⟩:=bS hF;have w2:res A 405 [V.isl (a0.map enc)] ⟨[(0,some [V.int .i64 0,V.nils,V.nils]),(1,some [V.int .i64 0,V.nils,V.nils])],2⟩=some (V.ptr 2 2 0,⟨[(0,some [V.int .i64 0,V.nils,V.nils]),(1,some [V.int .i64 0,V.nils,V.nils]),(2,some [V.isl (x1.code.map enc),V.int .i64 x1.at_,V.int .u64 x1.hash])],3⟩):=by
  obtain⟨_,w,rfl⟩:=d405 a0 gx1 [(0,some [V.int .i64 0,V.nils,V.nils]),(1,some [V.int .i64 0,V.nils,V.nils])] 2;exact w
 obtain⟨x3,gx3,hF⟩:=bS hF;have w4:xans A 406 [V.isl (x1.code.map enc),V.int .i64 x1.at_,V.int .u64 x1.hash] []=some ((eC x3.a),[V.isl (x3.b.code.map enc),V.int .i64 x3.b.at_,V.int .u64 x3.b.hash]):=s406 x1 gx3;obtain⟨x5,gx5,hF⟩:=bS hF;have w6:xans A 415 [V.isl (x3.b.code.map enc),V.int .i64 x3.b.at_,V.int .u64 x3.b.hash] []=some ((eC x5.a),[V.isl (x5.b.code.map enc),V.int .i64 x5.b.at_,V.int .u64 x5.b.hash]):=s415 x3.b gx5;obtain⟨x7,gx7,hF⟩:=bS hF;have w8:xans A 416 [V.isl (x5.b.code.map enc),V.int .i64 x5.b.at_,V.int .u64 x5.b.hash] [V.int .i64 14]=some (V.int .i64 x7.a,[V.isl (x7.b.code.map enc),V.int .i64 x7.b.at_,V.int .u64 x7.b.hash]):=s416 x5.b 14 gx7;by_cases c9:0 < x7.a
 ·rw[if_pos c9]at hF
  obtain⟨x10,gx10,hF⟩:=bS hF;have w11:=s78 x3.a.Prime gx10;cases x10 with
  |true=>
   rw[if_pos rfl]at hF;obtain⟨x12,gx12,hF⟩:=bS hF;have w13:xans A 417 [V.isl (x7.b.code.map enc),V.int .i64 x7.b.at_,V.int .u64 x7.b.hash] [V.int .i64 x3.a.Prime,V.isl (x5.a.Dims.map enc)]=some ((eC x12.a),[V.isl (x12.b.code.map enc),V.int .i64 x12.b.at_,V.int .u64 x12.b.hash]):=s417 x7.b x3.a.Prime x5.a.Dims gx12;cases hF;simp only[simprocAttr,R0,b396,qv,qf,qf,qf,qf, *];exact qd (by simp only[simprocAttr,R0,qe,p396,Rs.ev,qb,qv,qf,qf,qf,qf, *])
  |false=>
   rw[if_neg wD]at hF;cases hF;simp only[simprocAttr,R0,b396,qv,qf,qf,qf, *];exact qd (by simp only[simprocAttr,R0,qe,p396,Rs.ev,qb,qv,qf,qf,qf, *])
 ·rw[if_neg c9]at hF
  cases hF;simp only[simprocAttr,R0,b396,qv,qf,qf,qf, *];exact qd (by simp only[simprocAttr,R0,qe,p396,Rs.ev,qb,qv,qf,qf,qf, *])
def F278(a0:Int):Option Bool:=
 some (decide (8 < a0))
theorem s278(a0:Int){r:Bool}(hF:F278 a0=some r):ans A 278 [V.int .i64 a0]=some (enc r):=by
 refine qA (f:=p278) rfl rfl rfl fun e hl he=>?_;have h0_0:e.at 0=V.int .i64 a0:=he 0 _ rfl;have hl_0:e.length=5:=hl;clear he hl;show W A b278 e ⟨[],0⟩ _;unfold F278 at hF;cases hF;simp only[simprocAttr,R0,b278, *];exact qd (by simp only[simprocAttr,R0,qe,p278,Rs.ev,qb, *])
def F246(a0:List Int):Option Bool:=
 (F82 a0 (fun x=> F278 x)).bind fun x1=>
 some (!x1)
theorem s246(a0:List Int){r:Bool}(hF:F246 a0=some r):ans A 246 [V.isl (a0.map enc)]=some (enc r):=by
 refine qA (f:=p246) rfl rfl rfl fun e hl he=>?_;have h0_0:e.at 0=V.isl (a0.map enc):=he 0 _ rfl;have hl_0:e.length=6:=hl;clear he hl;show W A b246 e ⟨[],0⟩ _;unfold F246 at hF;obtain⟨x1,gx1,hF⟩:=bS hF;have w2:ans A 82 [V.isl (a0.map enc),V.fn 278 [] []]=some (V.bool x1):=s82 a0 (fun x=> F278 x) (Clo1.of (by intro h f; simp only[RZ,mapO]) (by intro h f; simp only[RZ,mapO]) (by intro f; simp only[RZ,RB]) (by intro f; simp only[RZ,RB]) (fun x _ hr=> s278 x hr)) gx1;cases hF;simp only[simprocAttr,R0,b246, *];exact qd (by simp only[simprocAttr,R0,qe,p246,Rs.ev,qb, *])
def F418(p:Int)(x:qa)(n r pl v:Int)(s:List (List (List Int))):Option (List (List (List Int))):=(F102 x n).bind fun d=>(chk (r+d)).bind fun r1=>(chk (n - 1)).bind fun n0=>(F102 x n0).bind fun d0=>(chk (pl+d0)).bind fun p1=> F75 p n r1 p1 v s
theorem st418(x:qa)(p:Int)(dv m:V)(N c1:Nat)(K:Ks)(R:List (Nat×Option (List V))→Prop)(hN:¬K N)(hR:∀E E',R E→(∀k,k < E.length→¬K k→E'[k]? =E[k]?)→R E'):Step4 418 [] [V.ptr N c1 0,V.iptr [V.int .i64 x.Prime,V.isl (x.Dims.map enc),V.isl (x.Maps.map enc)]] (S75 p dv m N c1 K R) (fun n r pl v s=> F418 p x n r pl v s) where
 call:=by
  rintro n r pl v s s' hF E c h;have h3:=h.2.2;unfold F418 at hF;obtain⟨d,gd,hF⟩:=bS hF;have wd:ans A 102 [(eC x),V.int .i64 n]=some (V.int .i64 d):=s102 x n gd;obtain⟨r1,gr,hF⟩:=bS hF;have wr:=qy gr;obtain⟨n0,gn,hF⟩:=bS hF;have wn:=qy gn;obtain⟨d0,gd0,hF⟩:=bS hF;have wd0:ans A 102 [(eC x),V.int .i64 n0]=some (V.int .i64 d0):=s102 x n0 gd0;obtain⟨p1,gp,hF⟩:=bS hF;have wp:=qy gp;obtain⟨E',c',q1,q2⟩:=sc75 hN hR hF c h;have key:∃h',res A 418 [V.int .i64 n,V.int .i64 r,V.int .i64 pl,V.int .i64 v,V.ptr N c1 0,V.iptr [V.int .i64 x.Prime,V.isl (x.Dims.map enc),V.isl (x.Maps.map enc)]] ⟨E,c⟩=some (V.undef,h')∧h'=⟨E',c'⟩:=by
   refine res_ex (f:=p418) rfl rfl rfl fun e hl he=>?_;have h0_0:e.at 0=V.int .i64 n:=he 0 _ rfl;have h1_0:e.at 1=V.int .i64 r:=he 1 _ rfl;have h2_0:e.at 2=V.int .i64 pl:=he 2 _ rfl;have h3_0:e.at 3=V.int .i64 v:=he 3 _ rfl;have h4_0:e.at 4=V.ptr N c1 0:=he 4 _ rfl;have h5_0:e.at 5=V.iptr [V.int .i64 x.Prime,V.isl (x.Dims.map enc),V.isl (x.Maps.map enc)]:=he 5 _ rfl;have hl_0:e.length=25:=hl;clear he hl;show W A b418 e ⟨E,c⟩ _;simp only[simprocAttr,R0,b418,h3,qv,q1, *];refine ai (fun _=> trivial) ?_;simp only[simprocAttr,R1,qe,p418,mapO];rfl
  obtain⟨_,k1,rfl⟩:=key;exact⟨E',c',k1,q2⟩
 pad:=fun s E x h=> sp75 hR h
def F397_1_B(x y:qa)(n:Int)(s:List Int):Option (List Int⊕List Int):=(F102 x n).bind fun a=>(F102 y n).bind fun b=>(chk (a+b)).bind fun d=>(app 8 s [d]).bind fun l=> some (.inl l)
def F397_1_D(n:Int)(s:List Int):Option (List Int):=some s
def F397(x y:qa):Option (T2 qa Int):=(F42 x).bind fun t=> if t=true then(F42 y).bind fun b=> if b=true then if x.Prime=y.Prime then
 (forR 0 (if(y.Dims.length:Int) > (x.Dims.length:Int)then(y.Dims.length:Int)else(x.Dims.length:Int)) (F397_1_B x y) F397_1_D []).bind fun d=>(F246 d).bind fun sm=> if sm=true then(F74 x.Prime d).bind fun o=>(F85 x.Maps (fun n r pl v s=> F75 o.Prime n r pl v s) o.Maps).bind fun m1=>(F85 y.Maps (fun n r pl v s=> F418 o.Prime x n r pl v s) m1).bind fun m=> some ⟨⟨o.Prime,o.Dims,m⟩,0⟩
 else some ⟨⟨0,[],[]⟩,3⟩else some ⟨⟨0,[],[]⟩,2⟩else some ⟨⟨0,[],[]⟩,1⟩else some ⟨⟨0,[],[]⟩,1⟩
theorem sa397(p:Int)(dv m:V)(N c1:Nat)(K:Ks)(R:List (Nat×Option (List V))→Prop)(hN:¬K N)(hR:∀E E',R E→(∀k,k < E.length→¬K k→E'[k]? =E[k]?)→R E'):Step4 75 [V.agg [V.int .i64 p,dv,m]] [] (S75 p dv m N c1 K R) (fun n r pl v s=> F75 p n r pl v s) where
 call:=fun n r pl v s s' hF E c h=> sc75 hN hR hF c h
 pad:=fun s E x h=> sp75 hR h
theorem d397(x y:qa){r:T2 qa Int}(hF:F397 x y=some r):∃v h',res A 397 [(eC x),(eC y)] Heap.empty=some (v,h')∧∃vs K,v=V.tup vs∧repF h' vs [⟨r.a⟩,⟨r.b⟩] K:=by
 refine res_dp (f:=p397) rfl rfl rfl fun e hl he=>?_;have h0_0:e.at 0=(eC x):=he 0 _ rfl;have h1_0:e.at 1=(eC y):=he 1 _ rfl;have hl_0:e.length=64:=hl;clear he hl;show W A b397 e ⟨[],0⟩ _;unfold F397 at hF;have hz:∀h:Heap,Deep.rep h (V.agg [V.int .i64 0,V.nils,V.nils]) (⟨0,[],[]⟩:qa) (fun _=> False∨False):=fun h=>⟨_,rfl,rec3 (K1:=fun _=> False) (K2:=fun _=> False) (rep_nils _) (rep_nils _) (fun _ q _=> q)⟩;obtain⟨t,gt,hF⟩:=bS hF;have wt:ans A 42 [(eC x)]=some (V.bool t):=s42 x gt;cases t with
 |false=>
  rw[if_neg wD]at hF;cases hF;simp only[simprocAttr,R0,b397,hl_0,h0_0,h1_0,wt];refine ai (fun _=> trivial) ⟨V.tup [V.agg [V.int .i64 0,V.nils,V.nils],V.int .i64 1],?_,_,_,rfl,jg (hz _) _⟩;simp only[simprocAttr,R0,qe,p397,Rs.ev,hl_0]
 |true=>
  rw[if_pos rfl]at hF;obtain⟨b,gb,hF⟩:=bS hF;have wb:ans A 42 [(eC y)]=some (V.bool b):=s42 y gb;cases b with
  |false=>
   rw[if_neg wD]at hF;cases hF;simp only[simprocAttr,R0,b397,hl_0,h0_0,h1_0,wt,wb];refine ai (fun _=> trivial) ⟨V.tup [V.agg [V.int .i64 0,V.nils,V.nils],V.int .i64 1],?_,_,_,rfl,jg (hz _) _⟩;simp only[simprocAttr,R0,qe,p397,Rs.ev,hl_0]
  |true=>
  rw[if_pos rfl]at hF;by_cases c5:x.Prime=y.Prime
  rotate_left
  ·rw[if_neg c5]at hF
   cases hF;simp only[simprocAttr,R0,b397,hl_0,h0_0,h1_0,wt,wb,eq_false c5];refine ai (fun _=> trivial) ⟨V.tup [V.agg [V.int .i64 0,V.nils,V.nils],V.int .i64 2],?_,_,_,rfl,jg (hz _) _⟩;simp only[simprocAttr,R0,qe,p397,Rs.ev,hl_0]
  rw[if_pos c5]at hF;have wx:ans A 73 [V.isl (x.Dims.map enc)]=some (V.int .i64 (x.Dims.length:Int)):=s73 x.Dims rfl;have wy:ans A 73 [V.isl (y.Dims.map enc)]=some (V.int .i64 (y.Dims.length:Int)):=s73 y.Dims rfl;obtain⟨d,gd,hF⟩:=bS hF;simp only[simprocAttr,R0,b397,hl_0,h0_0,h1_0,wt,wb,eq_true c5,wx,wy];refine W.mono (Q:=fun x' e h=> x'= .normal∧∃u,h.ents[2]? =some (2,some [V.int .i64 0,V.nils,V.nils])∧h.ents[3]? =some (u,some (d.map enc))∧e.length=64∧e.at 2=V.iptr [V.int .i64 x.Prime,V.isl (x.Dims.map enc),V.isl (x.Maps.map enc)]∧e.at 3=V.iptr [V.int .i64 y.Prime,V.isl (y.Dims.map enc),V.isl (y.Maps.map enc)]∧e.at 4=V.ptr 2 2 0∧e.at 6=V.sl 3 u 0 d.length 1) ?_ ?_
  ·show W A (.block 1 (.loop true b397_1)) _ _ _
   rw[qm];refine qJ gd _ rfl (fun n s e h=>∃u,h.ents[2]? =some (2,some [V.int .i64 0,V.nils,V.nils])∧h.ents[3]? =some (u,some (s.map enc))∧e.length=64∧e.at 2=V.iptr [V.int .i64 x.Prime,V.isl (x.Dims.map enc),V.isl (x.Maps.map enc)]∧e.at 3=V.iptr [V.int .i64 y.Prime,V.isl (y.Dims.map enc),V.isl (y.Maps.map enc)]∧e.at 4=V.ptr 2 2 0∧e.at 6=V.sl 3 u 0 s.length 1∧e.at 33=V.int .i64 (if(y.Dims.length:Int) > (x.Dims.length:Int)then(y.Dims.length:Int)else(x.Dims.length:Int))∧e.at 34=V.int .i64 n) ?_ ?_ ?_
   ·refine⟨3,rfl,rfl,?_⟩
    simp only[simprocAttr,R0,hl_0,h0_0,h1_0,vF]
   ·clear hl_0 h0_0 h1_0
    rintro n s e ⟨E,c⟩ ⟨u,g2,g3,h_1⟩ hlt hw oo ho;simp only at g2 g3;unfold F397_1_B at ho;obtain⟨a,ga,ho⟩:=bS ho;have wa:ans A 102 [(eC x),V.int .i64 n]=some (V.int .i64 a):=s102 x n ga;obtain⟨b,gb,ho⟩:=bS ho;have wb:ans A 102 [(eC y),V.int .i64 n]=some (V.int .i64 b):=s102 y n gb;obtain⟨q,gq,ho⟩:=bS ho;have wq:=qy gq;obtain⟨l,gl,ho⟩:=bS ho;cases ho;have hE3:3 < E.length:=(List.getElem?_eq_some_iff.1 g3).1;have wap:∀z c,qQ 1 8 (.sl 3 u 0 s.length 1) 1 [V.int .i64 q] ⟨E++[z],c⟩=_:=fun z c=> appE (α:=Int) (a:=q) (l2:=l) ((List.getElem?_append_left hE3).trans g3) gl;simp only[simprocAttr,R0,b397_1,h_1,eq_true hlt,hw,wa,wb,wq,qB,wap];refine ai rfl ⟨c+1,(qK (by decide) (by omega)).trans g2,qk (by simp; omega),?_⟩;simp only[simprocAttr,R0,h_1,hw]
   ·clear hl_0 h0_0 h1_0
    rintro n s e ⟨E,c⟩ ⟨u,g2,g3,h_1⟩ hge t1 ho;simp only at g2 g3;unfold F397_1_D at ho;cases ho;simp only[simprocAttr,R0,b397_1,h_1,eq_false hge];intro ht; subst ht;exact⟨u,g2,g3,rfl⟩
  clear hl_0 h0_0 h1_0;rintro _ e ⟨E0,c0⟩ ⟨rfl,u,g2,g3,hl_0,h2_0,h3_0,h4_0,h6_0⟩;simp only at g2 g3;have hE3:3 < E0.length:=(List.getElem?_eq_some_iff.1 g3).1;obtain⟨sm,gsm,hF⟩:=bS hF;have wsm:ans A 246 [V.isl (d.map enc)]=some (V.bool sm):=s246 d gsm;have wfz:frz ⟨E0,c0⟩ 16 (V.sl 3 u 0 d.length 1)=some (V.isl (d.map enc)):=frzE (α:=Int) g3 11;have wbb:∀b:Bool,bare 16 [] (V.bool b)=true:=fun b=> rfl;cases sm with
  |false=>
   rw[if_neg wD]at hF;cases hF;simp only[simprocAttr,R0,hl_0,h2_0,h3_0,h4_0,h6_0,wsm,wfz,wbb,Bool.or_true,g2];refine ai (fun _=> trivial) ⟨V.tup [V.agg [V.int .i64 0,V.nils,V.nils],V.int .i64 3],?_,_,_,rfl,jg (hz _) _⟩;simp only[simprocAttr,R0,qe,p397,Rs.ev,hl_0,h2_0,h3_0,h4_0,h6_0,qk (show 2 < E0.length by omega)]
  |true=>
  rw[if_pos rfl]at hF;obtain⟨o,go,hF⟩:=bS hF;obtain⟨m2,gm2,hF⟩:=bS hF;obtain⟨m3,gm,hF⟩:=bS hF;cases hF;obtain⟨_,⟨E1,c1⟩,w1,e1,e2,m,K,rfl,t1,t2,t3,t4⟩:=d74 x.Prime d go E0 c0 (dk:=3) (du:=u) g3;simp only at t2 t3 t4;have a1:E1[2]? =some (2,some [V.int .i64 0,V.nils,V.nils]):=(t3 2 (by omega)).trans g2;have a2:E1[3]? =some (u,some (d.map enc)):=(t3 3 (by omega)).trans g3;have hKN:¬K E1.length:=fun q=> by have:=Deep.bd t1 q; simp at this
  have hK3:∀k,K k→4≤k:=fun k q=> by have:=t2 k q; omega
  have hR:∀E E',(fun E:List (Nat×Option (List V))=> E[2]? =some (2,some [V.int .i64 0,V.nils,V.nils])∧E[3]? =some (u,some (d.map enc))) E→(∀k,k < E.length→¬K k→E'[k]? =E[k]?)→(fun E:List (Nat×Option (List V))=> E[2]? =some (2,some [V.int .i64 0,V.nils,V.nils])∧E[3]? =some (u,some (d.map enc))) E':=fun E E' h hk=>
   ⟨(hk 2 (List.getElem?_eq_some_iff.1 h.1).1 (fun q=> by have:=hK3 _ q; omega)).trans h.1,(hk 3 (List.getElem?_eq_some_iff.1 h.2).1 (fun q=> by have:=hK3 _ q; omega)).trans h.2⟩
  have S0:S75 o.Prime (V.sl 3 u 0 d.length 1) m E1.length c1 K (fun E:List (Nat×Option (List V))=> E[2]? =some (2,some [V.int .i64 0,V.nils,V.nils])∧E[3]? =some (u,some (d.map enc))) o.Maps (E1++[(c1,some [V.int .i64 o.Prime,V.sl 3 u 0 d.length 1,m])]):=
   ⟨Deep.frame t1 fun k q=> List.getElem?_append_left (Deep.bd t1 q),⟨(List.getElem?_append_left (List.getElem?_eq_some_iff.1 a1).1).trans a1,(List.getElem?_append_left (List.getElem?_eq_some_iff.1 a2).1).trans a2⟩,qB _ _⟩
  obtain⟨⟨E3,c3⟩,w2,S6⟩:=e85 (sa397 o.Prime (V.sl 3 u 0 d.length 1) m E1.length c1 K _ hKN hR) x gm2 _ (c1+1) S0;simp only at S6;have S7:=S6.2.2;obtain⟨⟨E2,c2⟩,w3,S1,⟨S3,S4⟩,S5⟩:=e85 (st418 x o.Prime (V.sl 3 u 0 d.length 1) m E1.length c1 K _ hKN hR) y gm E3 c3 S6;simp only at S1 S3 S4 S5;have hE1:2 < E2.length:=(List.getElem?_eq_some_iff.1 S3).1;simp only[simprocAttr,R0,hl_0,h2_0,h3_0,h4_0,h6_0,wsm,wfz,wbb,Bool.or_true,qv,w1,qB,jw,w2,S7,w3,S5,S3];have hq:(E2.set 2 (2,some [V.int .i64 o.Prime,V.sl 3 u 0 d.length 1,m]))[3]? =some (u,some (d.map enc)):=(qo (by decide)).trans S4;have hd:Deep.rep ⟨E2.set 2 (2,some [V.int .i64 o.Prime,V.sl 3 u 0 d.length 1,m]),c2⟩ (V.sl 3 u 0 d.length 1) o.Dims (fun k=> k=3):=by
   rw[e2]; exact js hq fun k=> vY
  have hf:Deep.rep ⟨E2.set 2 (2,some [V.int .i64 o.Prime,V.sl 3 u 0 d.length 1,m]),c2⟩ (V.agg [V.int .i64 o.Prime,V.sl 3 u 0 d.length 1,m]) (⟨o.Prime,o.Dims,m3⟩:qa) (fun k=> k=3∨K k):=
   ⟨_,rfl,rec3 (K1:=fun k=> k=3) (K2:=K) hd (Deep.frame S1 fun k q=> qo (by have:=hK3 _ q; omega)) (fun k p q=> by have:=hK3 _ q; omega)⟩
  exact ai (fun _=> trivial) ⟨V.tup [V.agg [V.int .i64 o.Prime,V.sl 3 u 0 d.length 1,m],V.int .i64 0],by simp only[simprocAttr,R0,qe,p397,Rs.ev,hl_0,h2_0,h3_0,h4_0,h6_0,qk hE1],_,_,rfl,jg hf _⟩
theorem s397(x y:qa){r:T2 qa Int}(hF:F397 x y=some r):ans A 397 [(eC x),(eC y)]=some (EncR.enc r):=by
 obtain⟨_,h',h1,vs,K,rfl,h2⟩:=d397 x y hF;exact ans_tup (ss:=[1,1,1]) (fits_pair rfl (by decide)) h1 h2
def F398_2_S(a0:qa)(a1:qa)(q2_0_1:Int)(o6_1:List (List (List Int)))(q7_0_1:Int)(v7_1:Int)(x15:Int)(l18:List Int)(x20:List (List Int))(x22:List (List Int))(s:(List (List Int))×Int):Option (((List (List Int))×Int)⊕((List (List Int)))):=
 match s with
 |(o9_2,v12_2)=>
  (F99 a0 v7_1).bind fun x28=>
  if v12_2 < x28 then
   (getI x20 v12_2).bind fun x31=>
   (F94 x31).bind fun x33=>
   (chk (v7_1 - 1)).bind fun x35=>
   (F99 a1 x35).bind fun x36=>
   (appZ 8 x33 x36 0).bind fun l39=>
   (app 24 o9_2 [l39]).bind fun l41=>
   (chk (v12_2+1)).bind fun x42=>
   some (.inl (l41,x42))
  else
   some (.inr o9_2)
def kl(a0:qa)(a1:qa)(q2_0_1:Int)(o6_1:List (List (List Int)))(q7_0_1:Int)(v7_1:Int)(x15:Int)(l18:List Int)(x22:List (List Int))(s:(List (List Int))×Int):Option (((List (List Int))×Int)⊕((List (List Int)))):=
 match s with
 |(o9_3,v13_3)=>
  (F99 a1 v7_1).bind fun x48=>
  if v13_3 < x48 then
   (chk (v7_1 - 1)).bind fun x51=>
   (F99 a0 x51).bind fun x52=>
   (mkL 8 x52 0).bind fun l54=>
   (getI x22 v13_3).bind fun x56=>
   (app 8 l54 x56).bind fun l59=>
   (app 24 o9_3 [l59]).bind fun l61=>
   (chk (v13_3+1)).bind fun x62=>
   some (.inl (l61,x62))
  else
   some (.inr o9_3)
def F398_1_B(a0:qa)(a1:qa)(v7_1:Int)(s:Int×(List Int)×(List (List (List Int)))×Int):Option ((Int×(List Int)×(List (List (List Int)))×Int)⊕((Int×(List Int)×(List (List (List Int)))×Int)⊕(T2 qa Int))):=
 match s with
 |(q2_0_1,o5_1,o6_1,q7_0_1)=>
  (F99 a0 v7_1).bind fun x11=>
  (F99 a1 v7_1).bind fun x13=>
  (chk (x11+x13)).bind fun x15=>
  if 8 < x15 then
   some (.inr (.inr ⟨⟨0,[],[]⟩,3⟩))
  else
   (app 8 o5_1 [x15]).bind fun l18=>
   if v7_1=0 then
    some (.inl (q2_0_1,l18,o6_1,q7_0_1))
   else
    (F76 a0 v7_1).bind fun x20=>
    (F76 a1 v7_1).bind fun x22=>
    (ze (F398_2_S a0 a1 q2_0_1 o6_1 q7_0_1 v7_1 x15 l18 x20 x22) ([],0)).bind fun zo9_2=>
    (ze (kl a0 a1 q2_0_1 o6_1 q7_0_1 v7_1 x15 l18 x22) (zo9_2,0)).bind fun zo9_3=>
    (app 24 o6_1 [zo9_3]).bind fun l65=>
    some (.inl (q2_0_1,l18,l65,q7_0_1))
def F398_1_D(a0:qa)(a1:qa)(v7_1:Int)(s:Int×(List Int)×(List (List (List Int)))×Int):Option ((Int×(List Int)×(List (List (List Int)))×Int)⊕(T2 qa Int)):=
 match s with
 |(q2_0_1,o5_1,o6_1,q7_0_1)=>
  some (.inl (q2_0_1,o5_1,o6_1,q7_0_1))
def F398(a0:qa)(a1:qa):Option (T2 qa Int):=
 (F39 a0).bind fun x1=>
 if x1=true then
  (F39 a1).bind fun x3=>
  if x3=true then
   if a0.Prime=a1.Prime then
    (forR 0 (if(a1.Dims.length:Int) > (a0.Dims.length:Int)then(a1.Dims.length:Int)else(a0.Dims.length:Int)) (F398_1_B a0 a1) (F398_1_D a0 a1) (0,[],[],a0.Prime)).bind fun t66=> match t66 with
     | .inl (zq2_0_1,zo5_1,zo6_1,zq7_0_1)=>
      some ⟨⟨zq7_0_1,zo5_1,zo6_1⟩,0⟩
     | .inr r67=> some r67
   else
    some ⟨⟨0,[],[]⟩,2⟩
  else
   some ⟨⟨0,[],[]⟩,1⟩
 else
  some ⟨⟨0,[],[]⟩,1⟩
def I398_2(a0:qa)(a1:qa)(q2_0_1:Int)(o6_1:List (List (List Int)))(q7_0_1:Int)(v7_1:Int)(x15:Int)(l18:List Int)(x20:List (List Int))(x22:List (List Int))(u7 u8 k9:Nat)(s:(List (List Int))×Int)(e:Env)(h:Heap):Prop:=
 match s with
 |(o9_2,v12_2)=>
  ∃u25 k26:Nat,h=⟨[(0,none),(0,none),(2,some [V.int .i64 q2_0_1,V.sl 3 3 0 0 1,V.sl 4 4 0 0 1]),(3,some []),(4,some []),((appU 1 u7 (k9+1)),some (l18.map enc)),(u8,some (o6_1.map enc)),(7,some [V.int .i64 q7_0_1,V.sl 5 (appU 1 u7 (k9+1)) 0 l18.length 1,V.sl 6 u8 0 o6_1.length 1]),(k9,some [V.int .i64 x15]),(u25,some (o9_2.map enc))],k26⟩∧e.length=119∧e.at 2=V.iptr [V.int .i64 a0.Prime,V.isl (a0.Dims.map enc),V.isl (a0.Maps.map enc)]∧e.at 3=V.iptr [V.int .i64 a1.Prime,V.isl (a1.Dims.map enc),V.isl (a1.Maps.map enc)]∧e.at 4=V.ptr 2 2 0∧e.at 6=V.ptr 7 7 0∧e.at 7=V.int .i64 v7_1∧e.at 9=V.sl 9 u25 0 o9_2.length 1∧e.at 10=V.isl (x20.map enc)∧e.at 11=V.isl (x22.map enc)∧e.at 12=V.int .i64 v12_2
def P398_2(a0:qa)(a1:qa)(q2_0_1:Int)(o6_1:List (List (List Int)))(q7_0_1:Int)(v7_1:Int)(x15:Int)(l18:List Int)(x20:List (List Int))(x22:List (List Int))(u7 u8 k9:Nat)(zo9_2:(List (List Int)))(x:Ex)(e:Env)(h:Heap):Prop:=
 x= .normal∧∃u25 k26:Nat,h=⟨[(0,none),(0,none),(2,some [V.int .i64 q2_0_1,V.sl 3 3 0 0 1,V.sl 4 4 0 0 1]),(3,some []),(4,some []),((appU 1 u7 (k9+1)),some (l18.map enc)),(u8,some (o6_1.map enc)),(7,some [V.int .i64 q7_0_1,V.sl 5 (appU 1 u7 (k9+1)) 0 l18.length 1,V.sl 6 u8 0 o6_1.length 1]),(k9,some [V.int .i64 x15]),(u25,some (zo9_2.map enc))],k26⟩∧e.length=119∧e.at 2=V.iptr [V.int .i64 a0.Prime,V.isl (a0.Dims.map enc),V.isl (a0.Maps.map enc)]∧e.at 3=V.iptr [V.int .i64 a1.Prime,V.isl (a1.Dims.map enc),V.isl (a1.Maps.map enc)]∧e.at 4=V.ptr 2 2 0∧e.at 6=V.ptr 7 7 0∧e.at 7=V.int .i64 v7_1∧e.at 9=V.sl 9 u25 0 zo9_2.length 1∧e.at 11=V.isl (x22.map enc)
theorem l398_2(a0:qa)(a1:qa)(q2_0_1:Int)(o6_1:List (List (List Int)))(q7_0_1:Int)(v7_1:Int)(x15:Int)(l18:List Int)(x20:List (List Int))(x22:List (List Int))(u7 u8 k9:Nat){s:(List (List Int))×Int}{t:(List (List Int))}(hF:ze (F398_2_S a0 a1 q2_0_1 o6_1 q7_0_1 v7_1 x15 l18 x20 x22) s=some t){e:Env}{h:Heap}(hI:I398_2 a0 a1 q2_0_1 o6_1 q7_0_1 v7_1 x15 l18 x20 x22 u7 u8 k9 s e h):W A c398_2 e h (P398_2 a0 a1 q2_0_1 o6_1 q7_0_1 v7_1 x15 l18 x20 x22 u7 u8 k9 t):=by
 show W A (.block 3 (.loop false b398_2)) e h _;rw[qm];refine jG hF 10 (by rcases s with⟨_,_⟩; obtain⟨_,_,rfl,_⟩:=hI; rfl) (I398_2 a0 a1 q2_0_1 o6_1 q7_0_1 v7_1 x15 l18 x20 x22 u7 u8 k9) hI ?_
 ·rintro⟨o9_2,v12_2⟩ e h ⟨u25,k26,rfl,h_24⟩ o ho
  unfold F398_2_S at ho;dsimp only at ho;obtain⟨x28,gx28,ho⟩:=bS ho;have w29:ans A 99 [(eC a0),V.int .i64 v7_1]=some (V.int .i64 x28):=s99 a0 v7_1 gx28;by_cases c30:v12_2 < x28
  ·rw[if_pos c30]at ho
   obtain⟨x31,gx31,ho⟩:=bS ho;obtain⟨w32a,w32b⟩:=qh gx31;obtain⟨x33,gx33,ho⟩:=bS ho;have w34:tans A 94 [1] [V.isl (x31.map enc)]=some (V.isl (x33.map enc)):=t94 x31 gx33;have w34t:=zb (α:=Int) x33;obtain⟨x35,gx35,ho⟩:=bS ho;have wx35:=qy gx35;obtain⟨x36,gx36,ho⟩:=bS ho;have w37:ans A 99 [(eC a1),V.int .i64 x35]=some (V.int .i64 x36):=s99 a1 x35 gx36;obtain⟨l39,gl39,ho⟩:=bS ho;obtain⟨w38a,w38b,w38c,w38d,w38e,w38f⟩:=appZ_w gl39;replace w38f:List.map enc (List.replicate (Int.toNat x36) (0:Int))=(List.replicate (Int.toNat x36) [V.int .i64 0]).flatten:=w38f;have w38:=fun a b c d e=> qD (α:=Int) (n:=x33.length) (m:=(Int.toNat x36)) (ds:=(List.replicate (Int.toNat x36) [V.int .i64 0]).flatten) w38d (by first|rfl|simp) w38e w38f a b c d e;have w38l:=qR w38d;obtain⟨l41,gl41,ho⟩:=bS ho;have w40:=fun a b c d e=> qD (α:=List Int) (n:=o9_2.length) (m:=1) (ds:=[V.isl (l39.map enc)]) gl41 (by first|rfl|simp) (by first|rfl|simp) rfl a b c d e;have w40l:=qR gl41;obtain⟨x42,gx42,ho⟩:=bS ho;have wx42:=qy gx42;cases ho;simp only[simprocAttr, -Int.reduceNatCast',R0,b398_2,h_24,w29,eq_true c30,w32a,w32b,w34,w34t,wx35,w37,w38a,w38b,w38c,w38,zk (α:=Int) l39,w40,wx42];refine ai rfl (ei _ (ei _ (ai rfl ?_)));simp only[simprocAttr, -Int.reduceNatCast',R0,h_24,w29,eq_true c30,w32a,w32b,w34,w34t,wx35,w37,w38a,w38b,w38c,w38,zk (α:=Int) l39,w40,wx42]
  ·rw[if_neg c30]at ho
   cases ho;simp only[simprocAttr, -Int.reduceNatCast',R0,b398_2,h_24,w29,eq_false c30];intro ht; subst ht;simp only[simprocAttr, -Int.reduceNatCast',RR,RB];refine ai rfl (ei _ (ei _ (ai rfl ?_)));simp only[simprocAttr, -Int.reduceNatCast',R0,h_24,w29,eq_false c30]
def I398_3(a0:qa)(a1:qa)(q2_0_1:Int)(o6_1:List (List (List Int)))(q7_0_1:Int)(v7_1:Int)(x15:Int)(l18:List Int)(x22:List (List Int))(u7 u8 k9:Nat)(s:(List (List Int))×Int)(e:Env)(h:Heap):Prop:=
 match s with
 |(o9_3,v13_3)=>
  ∃u45 k46:Nat,h=⟨[(0,none),(0,none),(2,some [V.int .i64 q2_0_1,V.sl 3 3 0 0 1,V.sl 4 4 0 0 1]),(3,some []),(4,some []),((appU 1 u7 (k9+1)),some (l18.map enc)),(u8,some (o6_1.map enc)),(7,some [V.int .i64 q7_0_1,V.sl 5 (appU 1 u7 (k9+1)) 0 l18.length 1,V.sl 6 u8 0 o6_1.length 1]),(k9,some [V.int .i64 x15]),(u45,some (o9_3.map enc))],k46⟩∧e.length=119∧e.at 2=V.iptr [V.int .i64 a0.Prime,V.isl (a0.Dims.map enc),V.isl (a0.Maps.map enc)]∧e.at 3=V.iptr [V.int .i64 a1.Prime,V.isl (a1.Dims.map enc),V.isl (a1.Maps.map enc)]∧e.at 4=V.ptr 2 2 0∧e.at 6=V.ptr 7 7 0∧e.at 7=V.int .i64 v7_1∧e.at 9=V.sl 9 u45 0 o9_3.length 1∧e.at 11=V.isl (x22.map enc)∧e.at 13=V.int .i64 v13_3
def P398_3(a0:qa)(a1:qa)(q2_0_1:Int)(o6_1:List (List (List Int)))(q7_0_1:Int)(v7_1:Int)(x15:Int)(l18:List Int)(x22:List (List Int))(u7 u8 k9:Nat)(zo9_3:(List (List Int)))(x:Ex)(e:Env)(h:Heap):Prop:=
 x= .normal∧∃u45 k46:Nat,h=⟨[(0,none),(0,none),(2,some [V.int .i64 q2_0_1,V.sl 3 3 0 0 1,V.sl 4 4 0 0 1]),(3,some []),(4,some []),((appU 1 u7 (k9+1)),some (l18.map enc)),(u8,some (o6_1.map enc)),(7,some [V.int .i64 q7_0_1,V.sl 5 (appU 1 u7 (k9+1)) 0 l18.length 1,V.sl 6 u8 0 o6_1.length 1]),(k9,some [V.int .i64 x15]),(u45,some (zo9_3.map enc))],k46⟩∧e.length=119∧e.at 2=V.iptr [V.int .i64 a0.Prime,V.isl (a0.Dims.map enc),V.isl (a0.Maps.map enc)]∧e.at 3=V.iptr [V.int .i64 a1.Prime,V.isl (a1.Dims.map enc),V.isl (a1.Maps.map enc)]∧e.at 4=V.ptr 2 2 0∧e.at 6=V.ptr 7 7 0∧e.at 7=V.int .i64 v7_1∧e.at 9=V.sl 9 u45 0 zo9_3.length 1
theorem l398_3(a0:qa)(a1:qa)(q2_0_1:Int)(o6_1:List (List (List Int)))(q7_0_1:Int)(v7_1:Int)(x15:Int)(l18:List Int)(x22:List (List Int))(u7 u8 k9:Nat){s:(List (List Int))×Int}{t:(List (List Int))}(hF:ze (kl a0 a1 q2_0_1 o6_1 q7_0_1 v7_1 x15 l18 x22) s=some t){e:Env}{h:Heap}(hI:I398_3 a0 a1 q2_0_1 o6_1 q7_0_1 v7_1 x15 l18 x22 u7 u8 k9 s e h):W A c398_3 e h (P398_3 a0 a1 q2_0_1 o6_1 q7_0_1 v7_1 x15 l18 x22 u7 u8 k9 t):=by
 show W A (.block 5 (.loop false b398_3)) e h _;rw[qm];refine jG hF 10 (by rcases s with⟨_,_⟩; obtain⟨_,_,rfl,_⟩:=hI; rfl) (I398_3 a0 a1 q2_0_1 o6_1 q7_0_1 v7_1 x15 l18 x22 u7 u8 k9) hI ?_
 ·rintro⟨o9_3,v13_3⟩ e h ⟨u45,k46,rfl,h_44⟩ o ho
  unfold kl at ho;dsimp only at ho;obtain⟨x48,gx48,ho⟩:=bS ho;have w49:ans A 99 [(eC a1),V.int .i64 v7_1]=some (V.int .i64 x48):=s99 a1 v7_1 gx48;by_cases c50:v13_3 < x48
  ·rw[if_pos c50]at ho
   obtain⟨x51,gx51,ho⟩:=bS ho;have wx51:=qy gx51;obtain⟨x52,gx52,ho⟩:=bS ho;have w53:ans A 99 [(eC a0),V.int .i64 x51]=some (V.int .i64 x52):=s99 a0 x51 gx52;obtain⟨l54,gl54,ho⟩:=bS ho;obtain⟨w55a,w55b,w55c,w55d,w55e⟩:=mkL_w gl54;replace w55e:(List.replicate (Int.toNat x52) [V.int .i64 0]).flatten=List.map enc l54:=w55e;obtain⟨x56,gx56,ho⟩:=bS ho;obtain⟨w57a,w57b⟩:=qh gx56;obtain⟨l59,gl59,ho⟩:=bS ho;have w58:=fun a b c d e=> qD (α:=Int) (n:=(Int.toNat x52)) (m:=x56.length) (ds:=List.map enc x56) gl59 (by first|rfl|simp only[w55d]) (by first|rfl|simp only[w55d]) rfl a b c d e;have w58l:=qR gl59;obtain⟨l61,gl61,ho⟩:=bS ho;have w60:=fun a b c d e=> qD (α:=List Int) (n:=o9_3.length) (m:=1) (ds:=[V.isl (l59.map enc)]) gl61 (by first|rfl|simp only[w55d]) (by first|rfl|simp only[w55d]) rfl a b c d e;have w60l:=qR gl61;obtain⟨x62,gx62,ho⟩:=bS ho;have wx62:=qy gx62;cases ho;simp only[simprocAttr, -Int.reduceNatCast',R0,b398_3,h_44,w49,eq_true c50,wx51,w53,w55a,w55b,w55c,w55e,w57a,w57b,w58,zk (α:=Int) l59,w60,wx62];refine ai rfl (ei _ (ei _ (ai rfl ?_)));simp only[simprocAttr, -Int.reduceNatCast',R0,h_44,w49,eq_true c50,wx51,w53,w55a,w55b,w55c,w55e,w57a,w57b,w58,zk (α:=Int) l59,w60,wx62,w55d]
  ·rw[if_neg c50]at ho
   cases ho;simp only[simprocAttr, -Int.reduceNatCast',R0,b398_3,h_44,w49,eq_false c50];intro ht; subst ht;simp only[simprocAttr, -Int.reduceNatCast',RR,RB];refine ai rfl (ei _ (ei _ (ai rfl ?_)));simp only[simprocAttr, -Int.reduceNatCast',R0,h_44,w49,eq_false c50]
def I398_1(a0:qa)(a1:qa)(v7_1:Int)(s:Int×(List Int)×(List (List (List Int)))×Int)(e:Env)(h:Heap):Prop:=
 match s with
 |(q2_0_1,o5_1,o6_1,q7_0_1)=>
  ∃u7 u8 k9:Nat,h=⟨[(0,none),(0,none),(2,some [V.int .i64 q2_0_1,V.sl 3 3 0 0 1,V.sl 4 4 0 0 1]),(3,some []),(4,some []),(u7,some (o5_1.map enc)),(u8,some (o6_1.map enc)),(7,some [V.int .i64 q7_0_1,V.sl 5 u7 0 o5_1.length 1,V.sl 6 u8 0 o6_1.length 1])],k9⟩∧e.length=119∧e.at 2=V.iptr [V.int .i64 a0.Prime,V.isl (a0.Dims.map enc),V.isl (a0.Maps.map enc)]∧e.at 3=V.iptr [V.int .i64 a1.Prime,V.isl (a1.Dims.map enc),V.isl (a1.Maps.map enc)]∧e.at 4=V.ptr 2 2 0∧e.at 6=V.ptr 7 7 0∧e.at 7=V.int .i64 v7_1
def P398_1(a0:qa)(a1:qa)(t:(Int×(List Int)×(List (List (List Int)))×Int)⊕(T2 qa Int))(x:Ex)(e:Env)(h:Heap):Prop:=
 match t with
 | .inl (zq2_0_1,zo5_1,zo6_1,zq7_0_1)=> x= .normal∧∃u7 u8 k9:Nat,h=⟨[(0,none),(0,none),(2,some [V.int .i64 zq2_0_1,V.sl 3 3 0 0 1,V.sl 4 4 0 0 1]),(3,some []),(4,some []),(u7,some (zo5_1.map enc)),(u8,some (zo6_1.map enc)),(7,some [V.int .i64 zq7_0_1,V.sl 5 u7 0 zo5_1.length 1,V.sl 6 u8 0 zo6_1.length 1])],k9⟩∧e.length=119∧e.at 4=V.ptr 2 2 0∧e.at 6=V.ptr 7 7 0
 | .inr r=> x= .ret∧Fin p398 (EncR.enc r) .ret e h
theorem l398_1(a0:qa)(a1:qa){lo:Int}{s:Int×(List Int)×(List (List (List Int)))×Int}{t:(Int×(List Int)×(List (List (List Int)))×Int)⊕(T2 qa Int)}(hF:forR lo (if(a1.Dims.length:Int) > (a0.Dims.length:Int)then(a1.Dims.length:Int)else(a0.Dims.length:Int)) (F398_1_B a0 a1) (F398_1_D a0 a1) s=some t){e:Env}{h:Heap}(hI:I398_1 a0 a1 lo s e h):W A c398_1 e h (P398_1 a0 a1 t):=by
 show W A (.block 1 (.loop false b398_1)) e h _;rw[qm];refine qJ hF 8 (by rcases s with⟨_,_,_,_⟩; obtain⟨_,_,_,rfl,_⟩:=hI; rfl) (I398_1 a0 a1) hI ?_ ?_
 ·rintro v7_1 ⟨q2_0_1,o5_1,o6_1,q7_0_1⟩ e h ⟨u7,u8,k9,rfl,h_6⟩ hlt hw o ho
  unfold F398_1_B at ho;dsimp only at ho;obtain⟨x11,gx11,ho⟩:=bS ho;have w12:ans A 99 [(eC a0),V.int .i64 v7_1]=some (V.int .i64 x11):=s99 a0 v7_1 gx11;obtain⟨x13,gx13,ho⟩:=bS ho;have w14:ans A 99 [(eC a1),V.int .i64 v7_1]=some (V.int .i64 x13):=s99 a1 v7_1 gx13;obtain⟨x15,gx15,ho⟩:=bS ho;have wx15:=qy gx15;by_cases c16:8 < x15
  ·rw[if_pos c16]at ho
   cases ho;simp only[simprocAttr,R0,b398_1,h_6,eq_true hlt,hw,w12,w14,wx15,eq_true c16];intro ht; subst ht;simp only[simprocAttr,RR,RB];exact ai rfl (qd (by simp only[simprocAttr,R0,qe,p398,Rs.ev,qb,h_6,eq_true hlt,hw,w12,w14,wx15,eq_true c16]))
  ·rw[if_neg c16]at ho
   obtain⟨l18,gl18,ho⟩:=bS ho;have w17:=fun a b c d e=> qD (α:=Int) (n:=o5_1.length) (m:=1) (ds:=[V.int .i64 x15]) gl18 (by first|rfl|simp) (by first|rfl|simp) rfl a b c d e;have w17l:=qR gl18;by_cases c19:v7_1=0
   ·rw[if_pos c19]at ho
    cases ho;simp only[simprocAttr,R0,b398_1,h_6,eq_true hlt,hw,w12,w14,wx15,eq_false c16,w17,eq_true c19];refine ai rfl (ei _ (ei _ (ei _ (ai rfl ?_))));simp only[simprocAttr,R0,h_6,eq_true hlt,hw,w12,w14,wx15,eq_false c16,w17,eq_true c19]
   ·rw[if_neg c19]at ho
    obtain⟨x20,gx20,ho⟩:=bS ho;have w21:ans A 76 [(eC a0),V.int .i64 v7_1]=some (V.isl (x20.map enc)):=s76 a0 v7_1 gx20;obtain⟨x22,gx22,ho⟩:=bS ho;have w23:ans A 76 [(eC a1),V.int .i64 v7_1]=some (V.isl (x22.map enc)):=s76 a1 v7_1 gx22;obtain⟨zo9_2,gt43,ho⟩:=bS ho;simp only[simprocAttr,R0,b398_1,h_6,eq_true hlt,hw,w12,w14,wx15,eq_false c16,w17,eq_false c19,w21,w23];refine W.mono (l398_2 a0 a1 q2_0_1 o6_1 q7_0_1 v7_1 x15 l18 x20 x22 u7 u8 k9 gt43 (ei _ (ei _ (ai rfl ?_)))) ?_
    ·simp only[simprocAttr,R0,h_6,eq_true hlt,hw,w12,w14,wx15,eq_false c16,w17,eq_false c19,w21,w23]
    rintro _ e _ ⟨rfl,u25,k26,rfl,h_27⟩;obtain⟨zo9_3,gt63,ho⟩:=bS ho;simp only[simprocAttr,R0,h_27,eq_true hlt,hw,eq_false c16,eq_false c19];refine W.mono (l398_3 a0 a1 q2_0_1 o6_1 q7_0_1 v7_1 x15 l18 x22 u7 u8 k9 gt63 (ei _ (ei _ (ai rfl ?_)))) ?_
    ·simp only[simprocAttr,R0,h_27,eq_true hlt,hw,eq_false c16,eq_false c19]
    rintro _ e _ ⟨rfl,u45,k46,rfl,h_47⟩;obtain⟨l65,gl65,ho⟩:=bS ho;have w64:=fun a b c d e=> qD (α:=List (List Int)) (n:=o6_1.length) (m:=1) (ds:=[V.isl (zo9_3.map enc)]) gl65 (by first|rfl|simp) (by first|rfl|simp) rfl a b c d e;have w64l:=qR gl65;cases ho;simp only[simprocAttr,R0,h_47,eq_true hlt,hw,eq_false c16,eq_false c19,zk (α:=List Int) zo9_3,w64];refine ai rfl (ei _ (ei _ (ei _ (ai rfl ?_))));simp only[simprocAttr,R0,h_47,eq_true hlt,hw,eq_false c16,eq_false c19,zk (α:=List Int) zo9_3,w64]
 ·rintro v7_1 ⟨q2_0_1,o5_1,o6_1,q7_0_1⟩ e h ⟨u7,u8,k9,rfl,h_6⟩ hge t1 ho
  unfold F398_1_D at ho;dsimp only at ho;cases ho;simp only[simprocAttr,R0,b398_1,h_6,eq_false hge];intro ht; subst ht;refine ai rfl (ei _ (ei _ (ei _ (ai rfl ?_))));simp only[simprocAttr,R0,h_6,eq_false hge]
theorem s398(a0:qa)(a1:qa){r:T2 qa Int}(hF:F398 a0 a1=some r):ans A 398 [(eC a0),(eC a1)]=some (EncR.enc r):=by
 refine qA (f:=p398) rfl rfl rfl fun e hl he=>?_;have h0_0:e.at 0=(eC a0):=he 0 _ rfl;have h1_0:e.at 1=(eC a1):=he 1 _ rfl;have hl_0:e.length=119:=hl;clear he hl;have h_0:=ai hl_0 (ai h0_0 h1_0);show W A b398 e ⟨[],0⟩ _;unfold F398 at hF;obtain⟨x1,gx1,hF⟩:=bS hF;have w2:ans A 39 [(eC a0)]=some (V.bool x1):=s39 a0 gx1;cases x1 with
 |true=>
  rw[if_pos rfl]at hF;obtain⟨x3,gx3,hF⟩:=bS hF;have w4:ans A 39 [(eC a1)]=some (V.bool x3):=s39 a1 gx3;cases x3 with
  |true=>
   rw[if_pos rfl]at hF;by_cases c5:a0.Prime=a1.Prime
   ·rw[if_pos c5]at hF
    obtain⟨t66,gt66,hF⟩:=bS hF;rcases t66 with⟨zq2_0_1,zo5_1,zo6_1,zq7_0_1⟩|r67
    ·dsimp only at hF
     simp only[simprocAttr,R0,b398,h_0,w2,w4,eq_true c5];refine W.mono (l398_1 a0 a1 gt66 (ei _ (ei _ (ei _ (ai rfl ?_))))) ?_
     ·simp only[simprocAttr,R0,h_0,w2,w4,eq_true c5]
     rintro _ e _ ⟨rfl,u7,u8,k9,rfl,h_10⟩;cases hF;simp only[simprocAttr,R0,h_10,eq_true c5];exact qd (by simp only[simprocAttr,R0,qe,p398,Rs.ev,qb,h_10,eq_true c5,frzs (α:=Int) zo5_1,zk (α:=Int) zo5_1,frzs (α:=List (List Int)) zo6_1,zk (α:=List (List Int)) zo6_1])
    ·dsimp only at hF
     cases hF;simp only[simprocAttr,R0,b398,h_0,w2,w4,eq_true c5];refine W.mono (l398_1 a0 a1 gt66 (ei _ (ei _ (ei _ (ai rfl ?_))))) ?_
     ·simp only[simprocAttr,R0,h_0,w2,w4,eq_true c5]
     rintro _ e h ⟨rfl,hq⟩;simp only[simprocAttr,RR,RB];exact hq
   ·rw[if_neg c5]at hF
    cases hF;simp only[simprocAttr,R0,b398,h_0,w2,w4,eq_false c5];exact qd (by simp only[simprocAttr,R0,qe,p398,Rs.ev,qb,h_0,w2,w4,eq_false c5])
  |false=>
   rw[if_neg wD]at hF;cases hF;simp only[simprocAttr,R0,b398,h_0,w2,w4];exact qd (by simp only[simprocAttr,R0,qe,p398,Rs.ev,qb,h_0,w2,w4])
 |false=>
  rw[if_neg wD]at hF;cases hF;simp only[simprocAttr,R0,b398,h_0,w2];exact qd (by simp only[simprocAttr,R0,qe,p398,Rs.ev,qb,h_0,w2])
def F399(a0:List U8):Option qa:=
 (F405 a0).bind fun x1=>
 (F406 x1).bind fun x3=>
 some x3.a
theorem s399(a0:List U8){r:qa}(hF:F399 a0=some r):ans A 399 [V.isl (a0.map enc)]=some (enc r):=by
 refine qA (f:=p399) rfl rfl rfl fun e hl he=>?_;have h0_0:e.at 0=V.isl (a0.map enc):=he 0 _ rfl;have hl_0:e.length=6:=hl;clear he hl;show W A b399 e ⟨[],0⟩ _;unfold F399 at hF;obtain⟨x1,gx1,hF⟩:=bS hF;have w2:res A 405 [V.isl (a0.map enc)] ⟨[(0,some [V.int .i64 0,V.nils,V.nils])],1⟩=some (V.ptr 1 1 0,⟨[(0,some [V.int .i64 0,V.nils,V.nils]),(1,some [V.isl (x1.code.map enc),V.int .i64 x1.at_,V.int .u64 x1.hash])],2⟩):=by
  obtain⟨_,w,rfl⟩:=d405 a0 gx1 [(0,some [V.int .i64 0,V.nils,V.nils])] 1;exact w
 obtain⟨x3,gx3,hF⟩:=bS hF;have w4:xans A 406 [V.isl (x1.code.map enc),V.int .i64 x1.at_,V.int .u64 x1.hash] []=some ((eC x3.a),[V.isl (x3.b.code.map enc),V.int .i64 x3.b.at_,V.int .u64 x3.b.hash]):=s406 x1 gx3;cases hF;simp only[simprocAttr,R0,b399,qv,qf, *];exact qd (by simp only[simprocAttr,R0,qe,p399,Rs.ev,qb,qv,qf, *])
def F400_1_B(a0:qa)(v13_1:Int)(v4_1:Int):Option ((Int)⊕(Int)):=
 (getI a0.Dims v13_1).bind fun x6=>
(remI v13_1 2).bind fun x8=>
(chk (x8*2)).bind fun x10=>
(chk (1 - x10)).bind fun x11=>
(chk (x6*x11)).bind fun x12=>
(chk (v4_1+x12)).bind fun x13=>
some (.inl x13)
def F400_1_D(a0:qa)(v13_1:Int)(v4_1:Int):Option (Int):=
 some v4_1
def F400(a0:qa):Option (T2 Int Int):=
 (F42 a0).bind fun x1=>
 if x1=true then
  (forR 0 (a0.Dims.length:Int) (F400_1_B a0) (F400_1_D a0) 0).bind fun zv4_1=>
  some ⟨zv4_1,0⟩
 else
  some ⟨0,1⟩
def I400_1(a0:qa)(v13_1:Int)(v4_1:Int)(e:Env)(h:Heap):Prop:=
 ∃k4:Nat,h=⟨[(0,none)],k4⟩∧e.length=28∧e.at 4=V.int .i64 v4_1∧e.at 11=V.isl (a0.Dims.map enc)∧e.at 12=V.int .i64 (a0.Dims.length:Int)∧e.at 13=V.int .i64 v13_1
def P400_1(a0:qa)(zv4_1:Int)(x:Ex)(e:Env)(h:Heap):Prop:=
 x= .normal∧∃k4:Nat,h=⟨[(0,none)],k4⟩∧e.length=28∧e.at 4=V.int .i64 zv4_1
theorem l400_1(a0:qa){lo:Int}{s:Int}{t:Int}(hF:forR lo (a0.Dims.length:Int) (F400_1_B a0) (F400_1_D a0) s=some t){e:Env}{h:Heap}(hI:I400_1 a0 lo s e h):W A c400_1 e h (P400_1 a0 t):=by
 show W A (.block 0 (.loop false b400_1)) e h _;rw[qm];refine qJ hF 1 (by obtain⟨_,rfl,_⟩:=hI; rfl) (I400_1 a0) hI ?_ ?_
 ·rintro v13_1 v4_1 e h ⟨k4,rfl,h_3⟩ hlt hw o ho
  unfold F400_1_B at ho;obtain⟨x6,gx6,ho⟩:=bS ho;obtain⟨w7a,w7b⟩:=qh gx6;obtain⟨x8,gx8,ho⟩:=bS ho;obtain⟨w9a,w9b⟩:=rem_w gx8;obtain⟨x10,gx10,ho⟩:=bS ho;have wx10:=qy gx10;obtain⟨x11,gx11,ho⟩:=bS ho;have wx11:=qy gx11;obtain⟨x12,gx12,ho⟩:=bS ho;have wx12:=qy gx12;obtain⟨x13,gx13,ho⟩:=bS ho;have wx13:=qy gx13;cases ho;simp only[simprocAttr,R0,b400_1, *];refine ai rfl (ei _ (ai rfl ?_));simp only[simprocAttr,R0, *]
 ·rintro v13_1 v4_1 e h ⟨k4,rfl,h_3⟩ hge t1 ho
  unfold F400_1_D at ho;cases ho;simp only[simprocAttr,R0,b400_1, *];intro ht; subst ht;refine ai rfl (ei _ (ai rfl ?_));simp only[simprocAttr,R0, *]
theorem s400(a0:qa){r:T2 Int Int}(hF:F400 a0=some r):ans A 400 [(eC a0)]=some (EncR.enc r):=by
 refine qA (f:=p400) rfl rfl rfl fun e hl he=>?_;have h0_0:e.at 0=(eC a0):=he 0 _ rfl;have hl_0:e.length=28:=hl;clear he hl;have h_0:=ai hl_0 h0_0;show W A b400 e ⟨[],0⟩ _;unfold F400 at hF;obtain⟨x1,gx1,hF⟩:=bS hF;have w2:=s42 a0 gx1;cases x1 with
 |true=>
  rw[if_pos rfl]at hF;obtain⟨zv4_1,gt14,hF⟩:=bS hF;simp only[simprocAttr,R0,b400, *];refine W.mono (l400_1 a0 gt14 (ei _ (ai rfl ?_))) ?_
  ·simp only[simprocAttr,R0, *]
  rintro _ e _ ⟨rfl,k4,rfl,h_5⟩;cases hF;simp only[simprocAttr,R0, *];exact qd (by simp only[simprocAttr,R0,qe,p400,Rs.ev,qb, *])
 |false=>
  rw[if_neg wD]at hF;cases hF;simp only[simprocAttr,R0,b400, *];exact qd (by simp only[simprocAttr,R0,qe,p400,Rs.ev,qb, *])
def F401_1_B(a0:qa)(v5_1:Int)(v4_1:Int):Option ((Int)⊕(Int)):=
 (getI a0.Dims v5_1).bind fun x6=>
(remI v5_1 2).bind fun x8=>
(chk (2*x8)).bind fun x10=>
(chk (1 - x10)).bind fun x11=>
(chk (x6*x11)).bind fun x12=>
(chk (v4_1+x12)).bind fun x13=>
some (.inl x13)
def F401_1_D(a0:qa)(v5_1:Int)(v4_1:Int):Option (Int):=
 some v4_1
def F401(a0:qa):Option (T2 Int Int):=
 (F39 a0).bind fun x1=>
 if x1=true then
  (forR 0 (a0.Dims.length:Int) (F401_1_B a0) (F401_1_D a0) 0).bind fun zv4_1=>
  some ⟨zv4_1,0⟩
 else
  some ⟨0,1⟩
def I401_1(a0:qa)(v5_1:Int)(v4_1:Int)(e:Env)(h:Heap):Prop:=
 ∃k4:Nat,h=⟨[(0,none)],k4⟩∧e.length=29∧e.at 1=V.iptr [V.int .i64 a0.Prime,V.isl (a0.Dims.map enc),V.isl (a0.Maps.map enc)]∧e.at 4=V.int .i64 v4_1∧e.at 5=V.int .i64 v5_1
def P401_1(a0:qa)(zv4_1:Int)(x:Ex)(e:Env)(h:Heap):Prop:=
 x= .normal∧∃k4:Nat,h=⟨[(0,none)],k4⟩∧e.length=29∧e.at 4=V.int .i64 zv4_1
theorem l401_1(a0:qa){lo:Int}{s:Int}{t:Int}(hF:forR lo (a0.Dims.length:Int) (F401_1_B a0) (F401_1_D a0) s=some t){e:Env}{h:Heap}(hI:I401_1 a0 lo s e h):W A c401_1 e h (P401_1 a0 t):=by
 show W A (.block 0 (.loop false b401_1)) e h _;rw[qm];refine qJ hF 1 (by obtain⟨_,rfl,_⟩:=hI; rfl) (I401_1 a0) hI ?_ ?_
 ·rintro v5_1 v4_1 e h ⟨k4,rfl,h_3⟩ hlt hw o ho
  unfold F401_1_B at ho;obtain⟨x6,gx6,ho⟩:=bS ho;obtain⟨w7a,w7b⟩:=qh gx6;obtain⟨x8,gx8,ho⟩:=bS ho;obtain⟨w9a,w9b⟩:=rem_w gx8;obtain⟨x10,gx10,ho⟩:=bS ho;have wx10:=qy gx10;obtain⟨x11,gx11,ho⟩:=bS ho;have wx11:=qy gx11;obtain⟨x12,gx12,ho⟩:=bS ho;have wx12:=qy gx12;obtain⟨x13,gx13,ho⟩:=bS ho;have wx13:=qy gx13;cases ho;simp only[simprocAttr,R0,b401_1, *];refine ai rfl (ei _ (ai rfl ?_));simp only[simprocAttr,R0, *]
 ·rintro v5_1 v4_1 e h ⟨k4,rfl,h_3⟩ hge t1 ho
  unfold F401_1_D at ho;cases ho;simp only[simprocAttr,R0,b401_1, *];intro ht; subst ht;refine ai rfl (ei _ (ai rfl ?_));simp only[simprocAttr,R0, *]
theorem s401(a0:qa){r:T2 Int Int}(hF:F401 a0=some r):ans A 401 [(eC a0)]=some (EncR.enc r):=by
 refine qA (f:=p401) rfl rfl rfl fun e hl he=>?_;have h0_0:e.at 0=(eC a0):=he 0 _ rfl;have hl_0:e.length=29:=hl;clear he hl;have h_0:=ai hl_0 h0_0;show W A b401 e ⟨[],0⟩ _;unfold F401 at hF;obtain⟨x1,gx1,hF⟩:=bS hF;have w2:=s39 a0 gx1;cases x1 with
 |true=>
  rw[if_pos rfl]at hF;obtain⟨zv4_1,gt14,hF⟩:=bS hF;simp only[simprocAttr,R0,b401, *];refine W.mono (l401_1 a0 gt14 (ei _ (ai rfl ?_))) ?_
  ·simp only[simprocAttr,R0, *]
  rintro _ e _ ⟨rfl,k4,rfl,h_5⟩;cases hF;simp only[simprocAttr,R0, *];exact qd (by simp only[simprocAttr,R0,qe,p401,Rs.ev,qb, *])
 |false=>
  rw[if_neg wD]at hF;cases hF;simp only[simprocAttr,R0,b401, *];exact qd (by simp only[simprocAttr,R0,qe,p401,Rs.ev,qb, *])
def F419(a0:List U8):Option (T2 qa Int):=
 (F405 a0).bind fun x1=>
 (F406 x1).bind fun x3=>
 (chk ((x3.a.Dims.length:Int) - 1)).bind fun x5=>
 (F411 x3.b x5).bind fun x6=>
 some ⟨x3.a,x6.a⟩
theorem s419(a0:List U8){r:T2 qa Int}(hF:F419 a0=some r):ans A 419 [V.isl (a0.map enc)]=some (EncR.enc r):=by
 refine qA (f:=p419) rfl rfl rfl fun e hl he=>?_;have h0_0:e.at 0=V.isl (a0.map enc):=he 0 _ rfl;have hl_0:e.length=17:=hl;clear he hl;show W A b419 e ⟨[],0⟩ _;unfold F419 at hF;obtain⟨x1,gx1,hF⟩:=bS hF;have w2:res A 405 [V.isl (a0.map enc)] ⟨[(0,some [V.int .i64 0,V.nils,V.nils])],1⟩=some (V.ptr 1 1 0,⟨[(0,some [V.int .i64 0,V.nils,V.nils]),(1,some [V.isl (x1.code.map enc),V.int .i64 x1.at_,V.int .u64 x1.hash])],2⟩):=by
  obtain⟨_,w,rfl⟩:=d405 a0 gx1 [(0,some [V.int .i64 0,V.nils,V.nils])] 1;exact w
 obtain⟨x3,gx3,hF⟩:=bS hF;have w4:xans A 406 [V.isl (x1.code.map enc),V.int .i64 x1.at_,V.int .u64 x1.hash] []=some ((eC x3.a),[V.isl (x3.b.code.map enc),V.int .i64 x3.b.at_,V.int .u64 x3.b.hash]):=s406 x1 gx3;obtain⟨x5,gx5,hF⟩:=bS hF;have wx5:=qy gx5;obtain⟨x6,gx6,hF⟩:=bS hF;have w7:xans A 411 [V.isl (x3.b.code.map enc),V.int .i64 x3.b.at_,V.int .u64 x3.b.hash] [V.int .i64 x5]=some (V.int .i64 x6.a,[V.isl (x6.b.code.map enc),V.int .i64 x6.b.at_,V.int .u64 x6.b.hash]):=s411 x3.b x5 gx6;cases hF;simp only[simprocAttr,R0,b419,qv,qf,qf, *];exact qd (by simp only[simprocAttr,R0,qe,p419,Rs.ev,qb,qv,qf,qf, *])
def F402(a0:List U8):Option (T2 qa Int):=
 (F419 a0).bind fun x1=>
 some ⟨x1.a,x1.b⟩
theorem s402(a0:List U8){r:T2 qa Int}(hF:F402 a0=some r):ans A 402 [V.isl (a0.map enc)]=some (EncR.enc r):=by
 refine qA (f:=p402) rfl rfl rfl fun e hl he=>?_;have h0_0:e.at 0=V.isl (a0.map enc):=he 0 _ rfl;have hl_0:e.length=13:=hl;clear he hl;show W A b402 e ⟨[],0⟩ _;unfold F402 at hF;obtain⟨x1,gx1,hF⟩:=bS hF;have w2:ans A 419 [V.isl (a0.map enc)]=some (V.tup [(eC x1.a),V.int .i64 x1.b]):=s419 a0 gx1;cases hF;simp only[simprocAttr,R0,b402, *];exact qd (by simp only[simprocAttr,R0,qe,p402,Rs.ev,qb, *])
def F62(a0:qa)(a1:Int):Option Int:=
 (F42 a0).bind fun x1=>
 if x1=true then
  (F86 a0).bind fun x3=>
  (F56 a1 0 x3).bind fun x5=>
  if x5=true then
   some 0
  else
   some 2
 else
  some 1
theorem s62(a0:qa)(a1:Int){r:Int}(hF:F62 a0 a1=some r):ans A 62 [(eC a0),V.int .i64 a1]=some (enc r):=by
 refine qA (f:=p62) rfl rfl rfl fun e hl he=>?_;have h0_0:e.at 0=(eC a0):=he 0 _ rfl;have h1_0:e.at 1=V.int .i64 a1:=he 1 _ rfl;have hl_0:e.length=15:=hl;clear he hl;have h_0:=ai hl_0 (ai h0_0 h1_0);show W A b62 e ⟨[],0⟩ _;unfold F62 at hF;obtain⟨x1,gx1,hF⟩:=bS hF;have w2:=s42 a0 gx1;cases x1 with
 |true=>
  rw[if_pos rfl]at hF;obtain⟨x3,gx3,hF⟩:=bS hF;have w4:=s86 a0 gx3;obtain⟨x5,gx5,hF⟩:=bS hF;have w6:=s56 a1 0 x3 gx5;cases x5 with
  |true=>
   rw[if_pos rfl]at hF;cases hF;simp only[simprocAttr,R0,b62, *];exact qd (by simp only[simprocAttr,R0,qe,p62,Rs.ev,qb, *])
  |false=>
   rw[if_neg wD]at hF;cases hF;simp only[simprocAttr,R0,b62, *];exact qd (by simp only[simprocAttr,R0,qe,p62,Rs.ev,qb, *])
 |false=>
  rw[if_neg wD]at hF;cases hF;simp only[simprocAttr,R0,b62, *];exact qd (by simp only[simprocAttr,R0,qe,p62,Rs.ev,qb, *])
def F403(a0:qa)(a1:Int):Option (T2 Bool Int):=
 (F62 a0 a1).bind fun x1=>
 if x1=0 then
  (F168 a0 a1).bind fun x4=>
  some ⟨decide (x4=0),0⟩
 else
  some ⟨false,x1⟩
theorem s403(a0:qa)(a1:Int){r:T2 Bool Int}(hF:F403 a0 a1=some r):ans A 403 [(eC a0),V.int .i64 a1]=some (EncR.enc r):=by
 refine qA (f:=p403) rfl rfl rfl fun e hl he=>?_;have h0_0:e.at 0=(eC a0):=he 0 _ rfl;have h1_0:e.at 1=V.int .i64 a1:=he 1 _ rfl;have hl_0:e.length=17:=hl;clear he hl;have h_0:=ai hl_0 (ai h0_0 h1_0);show W A b403 e ⟨[],0⟩ _;unfold F403 at hF;obtain⟨x1,gx1,hF⟩:=bS hF;have w2:=s62 a0 a1 gx1;by_cases c3:x1=0
 ·rw[if_pos c3]at hF
  obtain⟨x4,gx4,hF⟩:=bS hF;have w5:=s168 a0 a1 gx4;cases hF;simp only[simprocAttr,R0,b403, *];exact qd (by simp only[simprocAttr,R0,qe,p403,Rs.ev,qb, *])
 ·rw[if_neg c3]at hF
  cases hF;simp only[simprocAttr,R0,b403, *];exact qd (by simp only[simprocAttr,R0,qe,p403,Rs.ev,qb, *])
def F251(a0:qa)(a1:Int):Option (List (List Int)):=
 (chk (a1+1)).bind fun x1=>
 (F76 a0 x1).bind fun x2=>
 (F131 a0.Prime x2).bind fun x4=>
 some x4
theorem s251(a0:qa)(a1:Int){r:List (List Int)}(hF:F251 a0 a1=some r):ans A 251 [(eC a0),V.int .i64 a1]=some (enc r):=by
 refine qA (f:=p251) rfl rfl rfl fun e hl he=>?_;have h0_0:e.at 0=(eC a0):=he 0 _ rfl;have h1_0:e.at 1=V.int .i64 a1:=he 1 _ rfl;have hl_0:e.length=12:=hl;clear he hl;show W A b251 e ⟨[],0⟩ _;unfold F251 at hF;obtain⟨x1,gx1,hF⟩:=bS hF;have wx1:=qy gx1;obtain⟨x2,gx2,hF⟩:=bS hF;have w3:=s76 a0 x1 gx2;obtain⟨x4,gx4,hF⟩:=bS hF;have w5:=s131 a0.Prime x2 gx4;cases hF;simp only[simprocAttr,R0,b251, *];exact qd (by simp only[simprocAttr,R0,qe,p251,Rs.ev,qb, *])
def F283(a0:qa)(a1:Int):Option Int:=
 (F98 a0 a1).bind fun x1=>
 (F251 a0 a1).bind fun x3=>
 (chk ((x1.length:Int) - (x3.length:Int))).bind fun x5=>
 some x5
theorem s283(a0:qa)(a1:Int){r:Int}(hF:F283 a0 a1=some r):ans A 283 [(eC a0),V.int .i64 a1]=some (enc r):=by
 refine qA (f:=p283) rfl rfl rfl fun e hl he=>?_;have h0_0:e.at 0=(eC a0):=he 0 _ rfl;have h1_0:e.at 1=V.int .i64 a1:=he 1 _ rfl;have hl_0:e.length=14:=hl;clear he hl;show W A b283 e ⟨[],0⟩ _;unfold F283 at hF;obtain⟨x1,gx1,hF⟩:=bS hF;have w2:=s98 a0 a1 gx1;obtain⟨x3,gx3,hF⟩:=bS hF;have w4:=s251 a0 a1 gx3;obtain⟨x5,gx5,hF⟩:=bS hF;have wx5:=qy gx5;cases hF;simp only[simprocAttr,R0,b283, *];exact qd (by simp only[simprocAttr,R0,qe,p283,Rs.ev,qb, *])
def F420(a0:qa)(a1:Int):Option Int:=
 (F39 a0).bind fun x1=>
 if x1=true then
  (chk ((a0.Dims.length:Int) - 1)).bind fun x3=>
  (F54 a1 0 x3).bind fun x4=>
  if x4=true then
   some 0
  else
   some 2
 else
  some 1
theorem s420(a0:qa)(a1:Int){r:Int}(hF:F420 a0 a1=some r):ans A 420 [(eC a0),V.int .i64 a1]=some (enc r):=by
 refine qA (f:=p420) rfl rfl rfl fun e hl he=>?_;have h0_0:e.at 0=(eC a0):=he 0 _ rfl;have h1_0:e.at 1=V.int .i64 a1:=he 1 _ rfl;have hl_0:e.length=17:=hl;clear he hl;have h_0:=ai hl_0 (ai h0_0 h1_0);show W A b420 e ⟨[],0⟩ _;unfold F420 at hF;obtain⟨x1,gx1,hF⟩:=bS hF;have w2:=s39 a0 gx1;cases x1 with
 |true=>
  rw[if_pos rfl]at hF;obtain⟨x3,gx3,hF⟩:=bS hF;have wx3:=qy gx3;obtain⟨x4,gx4,hF⟩:=bS hF;have w5:=s54 a1 0 x3 gx4;cases x4 with
  |true=>
   rw[if_pos rfl]at hF;cases hF;simp only[simprocAttr,R0,b420, *];exact qd (by simp only[simprocAttr,R0,qe,p420,Rs.ev,qb, *])
  |false=>
   rw[if_neg wD]at hF;cases hF;simp only[simprocAttr,R0,b420, *];exact qd (by simp only[simprocAttr,R0,qe,p420,Rs.ev,qb, *])
 |false=>
  rw[if_neg wD]at hF;cases hF;simp only[simprocAttr,R0,b420, *];exact qd (by simp only[simprocAttr,R0,qe,p420,Rs.ev,qb, *])
def F404(a0:qa)(a1:Int):Option (T2 Bool Int):=
 (F420 a0 a1).bind fun x1=>
 if x1=0 then
  (F283 a0 a1).bind fun x4=>
  some ⟨decide (x4=0),0⟩
 else
  some ⟨false,x1⟩
theorem s404(a0:qa)(a1:Int){r:T2 Bool Int}(hF:F404 a0 a1=some r):ans A 404 [(eC a0),V.int .i64 a1]=some (EncR.enc r):=by
 refine qA (f:=p404) rfl rfl rfl fun e hl he=>?_;have h0_0:e.at 0=(eC a0):=he 0 _ rfl;have h1_0:e.at 1=V.int .i64 a1:=he 1 _ rfl;have hl_0:e.length=17:=hl;clear he hl;have h_0:=ai hl_0 (ai h0_0 h1_0);show W A b404 e ⟨[],0⟩ _;unfold F404 at hF;obtain⟨x1,gx1,hF⟩:=bS hF;have w2:=s420 a0 a1 gx1;by_cases c3:x1=0
 ·rw[if_pos c3]at hF
  obtain⟨x4,gx4,hF⟩:=bS hF;have w5:=s283 a0 a1 gx4;cases hF;simp only[simprocAttr,R0,b404, *];exact qd (by simp only[simprocAttr,R0,qe,p404,Rs.ev,qb, *])
 ·rw[if_neg c3]at hF
  cases hF;simp only[simprocAttr,R0,b404, *];exact qd (by simp only[simprocAttr,R0,qe,p404,Rs.ev,qb, *])
def F425_1_B(a0:List U8)(x3:qa)(x5:T2 qa Int)(x7:T2 qa Int)(x13:T2 qa Int)(x15:T2 (List Int) Int)(x17:T2 (List Int) Int)(v14_1:Int)(s:Unit):Option ((Unit)⊕((Unit)⊕Bool)):=
 (getI x15.a v14_1).bind fun x28=>
(chk ((x15.a.length:Int) - 1)).bind fun x30=>
(chk (x30 - v14_1)).bind fun x31=>
(getI x17.a x31).bind fun x32=>
if x28=x32 then
 some (.inl ())
else
 some (.inr (.inr false))
def F425_1_D(a0:List U8)(x3:qa)(x5:T2 qa Int)(x7:T2 qa Int)(x13:T2 qa Int)(x15:T2 (List Int) Int)(x17:T2 (List Int) Int)(v14_1:Int)(s:Unit):Option ((Unit)⊕Bool):=
 some (.inl ())
def F425_93(y0:List U8):Option Bool:=
 (F399 y0).bind fun x93=>
 (F400 x93).bind fun x95=>
 (F401 x93).bind fun x97=>
 (F402 y0).bind fun x99=>
 (F403 x99.a x99.b).bind fun x101=>
 (F404 x99.a x99.b).bind fun x103=>
 if x95.b=x97.b then
  if x95.a=x97.a then
   if x101.b=x103.b then
    some (x101.a==x103.a)
   else
    some false
  else
   some false
 else
  some false
def F425_92(y0:List U8):Option Bool:=
 (F396 y0).bind fun x65=>
 (F397 x65.a x65.b).bind fun x67=>
 (F398 x65.a x65.b).bind fun x69=>
 if x67.b=x69.b then
  (F392 x67.a x69.a).bind fun x72=>
  if x72=true then
   if x67.b=0 then
    (F149 x65.a).bind fun x75=>
    (F149 x65.b).bind fun x77=>
    (F149 x67.a).bind fun x79=>
    if x75.b=0 then
     if x77.b=0 then
      if x79.b=0 then
       (F150 x75.a).bind fun x84=>
       (F150 x77.a).bind fun x86=>
       (chk (x84+x86)).bind fun x88=>
       (F150 x79.a).bind fun x89=>
       if x88=x89 then
        F425_93 y0
       else
        some false
      else
       some false
     else
      some false
    else
     some false
   else
    F425_93 y0
  else
   some false
 else
  some false
def F425_91(y0:List U8):Option Bool:=
 (F393 y0).bind fun x37=>
 (F394 x37.a x37.b).bind fun x39=>
 (F395 x37.a x37.b).bind fun x41=>
 if x39.b=x41.b then
  (F392 x39.a x41.a).bind fun x44=>
  if x44=true then
   if x39.b=0 then
    (F149 x37.a).bind fun x47=>
    (F149 x39.a).bind fun x49=>
    if x47.b=0 then
     if x49.b=0 then
      (chk ((x47.a.length:Int)+x37.b)).bind fun x53=>
      if(x49.a.length:Int)=x53 then
       (slI x49.a x37.b (x49.a.length:Int)).bind fun l55=>
       (F156 l55 x47.a).bind fun x57=>
       if x57=true then
        (slI x49.a 0 x37.b).bind fun l59=>
        (F150 l59).bind fun x61=>
        if x61=0 then
         F425_92 y0
        else
         some false
       else
        some false
      else
       some false
     else
      some false
    else
     some false
   else
    F425_92 y0
  else
   some false
 else
  some false
def F425(a0:List U8):Option Bool:=
 (F140 a0).bind fun x1=>
 if x1=true then
  some true
 else
  (F389 a0).bind fun x3=>
  (F390 x3).bind fun x5=>
  (F391 x3).bind fun x7=>
  if x5.b=x7.b then
   (F392 x5.a x7.a).bind fun x10=>
   if x10=true then
    if x5.b=0 then
     (F390 x5.a).bind fun x13=>
     (F149 x3).bind fun x15=>
     (F149 x5.a).bind fun x17=>
     if x13.b=0 then
      if x15.b=0 then
       if x17.b=0 then
        (F392 x13.a x3).bind fun x22=>
        if x22=true then
         if(x15.a.length:Int)=(x17.a.length:Int)then
          (forR 0 (x15.a.length:Int) (F425_1_B a0 x3 x5 x7 x13 x15 x17) (F425_1_D a0 x3 x5 x7 x13 x15 x17) ()).bind fun t35=> match t35 with
           | .inl _=>
            F425_91 a0
           | .inr r108=> some r108
         else
          some false
        else
         some false
       else
        some false
      else
       some false
     else
      some false
    else
     F425_91 a0
   else
    some false
  else
   some false
def I425_1(a0:List U8)(x3:qa)(x5:T2 qa Int)(x7:T2 qa Int)(x13:T2 qa Int)(x15:T2 (List Int) Int)(x17:T2 (List Int) Int)(v14_1:Int)(s:Unit)(e:Env)(h:Heap):Prop:=
 ∃k26:Nat,h=⟨[(0,some [V.int .i64 x3.Prime,V.isl (x3.Dims.map enc),V.isl (x3.Maps.map enc)]),(1,some [V.int .i64 x5.a.Prime,V.isl (x5.a.Dims.map enc),V.isl (x5.a.Maps.map enc)]),(2,some [V.int .i64 x7.a.Prime,V.isl (x7.a.Dims.map enc),V.isl (x7.a.Maps.map enc)]),(3,some [V.int .i64 x13.a.Prime,V.isl (x13.a.Dims.map enc),V.isl (x13.a.Maps.map enc)])],k26⟩∧e.length=308∧e.at 0=V.isl (a0.map enc)∧e.at 10=V.isl (x15.a.map enc)∧e.at 12=V.isl (x17.a.map enc)∧e.at 14=V.int .i64 v14_1
def P425_1(a0:List U8)(x3:qa)(x5:T2 qa Int)(x7:T2 qa Int)(x13:T2 qa Int)(x15:T2 (List Int) Int)(x17:T2 (List Int) Int)(t:(Unit)⊕Bool)(x:Ex)(e:Env)(h:Heap):Prop:=
 match t with
 | .inl _=> x= .normal∧∃k26:Nat,h=⟨[(0,some [V.int .i64 x3.Prime,V.isl (x3.Dims.map enc),V.isl (x3.Maps.map enc)]),(1,some [V.int .i64 x5.a.Prime,V.isl (x5.a.Dims.map enc),V.isl (x5.a.Maps.map enc)]),(2,some [V.int .i64 x7.a.Prime,V.isl (x7.a.Dims.map enc),V.isl (x7.a.Maps.map enc)]),(3,some [V.int .i64 x13.a.Prime,V.isl (x13.a.Dims.map enc),V.isl (x13.a.Maps.map enc)])],k26⟩∧e.length=308∧e.at 0=V.isl (a0.map enc)
 | .inr r=> x= .ret∧Fin p425 (enc r) .ret e h
theorem l425_1(a0:List U8)(x3:qa)(x5:T2 qa Int)(x7:T2 qa Int)(x13:T2 qa Int)(x15:T2 (List Int) Int)(x17:T2 (List Int) Int){lo:Int}{s:Unit}{t:(Unit)⊕Bool}(hF:forR lo (x15.a.length:Int) (F425_1_B a0 x3 x5 x7 x13 x15 x17) (F425_1_D a0 x3 x5 x7 x13 x15 x17) s=some t){e:Env}{h:Heap}(hI:I425_1 a0 x3 x5 x7 x13 x15 x17 lo s e h):W A c425_1 e h (P425_1 a0 x3 x5 x7 x13 x15 x17 t):=by
 show W A (.block 0 (.loop false b425_1)) e h _;rw[qm];refine qJ hF 4 (by obtain⟨_,rfl,_⟩:=hI; rfl) (I425_1 a0 x3 x5 x7 x13 x15 x17) hI ?_ ?_
 ·rintro v14_1 _ e h ⟨k26,rfl,h_25⟩ hlt hw o ho
  unfold F425_1_B at ho;obtain⟨x28,gx28,ho⟩:=bS ho;obtain⟨w29a,w29b⟩:=qh gx28;obtain⟨x30,gx30,ho⟩:=bS ho;have wx30:=qy gx30;obtain⟨x31,gx31,ho⟩:=bS ho;have wx31:=qy gx31;obtain⟨x32,gx32,ho⟩:=bS ho;obtain⟨w33a,w33b⟩:=qh gx32;by_cases c34:x28=x32
  ·rw[if_pos c34]at ho
   cases ho;simp only[simprocAttr,R0,b425_1, *];refine ai rfl (ei _ (ai rfl ?_));simp only[simprocAttr,R0, *]
  ·rw[if_neg c34]at ho
   cases ho;simp only[simprocAttr,R0,b425_1, *];intro ht; subst ht;simp only[simprocAttr,RR,RB];exact ai rfl (qd (by simp only[simprocAttr,R0,qe,p425,Rs.ev,qb, *]))
 ·rintro v14_1 _ e h ⟨k26,rfl,h_25⟩ hge t1 ho
  unfold F425_1_D at ho;cases ho;simp only[simprocAttr,R0,b425_1, *];intro ht; subst ht;refine ai rfl (ei _ (ai rfl ?_));simp only[simprocAttr,R0, *]
theorem k425_3_11(r0 r1 r2 r3 r4 r5 r6 r7 r8 r9 r10:Nat×Option (List V))(y0:List U8){r:Bool}(hF:F425_93 y0=some r){ck:Nat}{e:Env}(hC:e.length=308∧e.at 0=V.isl (y0.map enc)):W A j425_3 e ⟨[r0,r1,r2,r3,r4,r5,r6,r7,r8,r9,r10],ck⟩ (Fin p425 (enc r)):=by
 obtain⟨hl_92,h0_92⟩:=hC;unfold F425_93 at hF;obtain⟨x93,gx93,hF⟩:=bS hF;have w94:ans A 399 [V.isl (y0.map enc)]=some ((eC x93)):=s399 y0 gx93;obtain⟨x95,gx95,hF⟩:=bS hF;have w96:ans A 400 [(eC x93)]=some (V.tup [V.int .i64 x95.a,V.int .i64 x95.b]):=s400 x93 gx95;obtain⟨x97,gx97,hF⟩:=bS hF;have w98:ans A 401 [(eC x93)]=some (V.tup [V.int .i64 x97.a,V.int .i64 x97.b]):=s401 x93 gx97;obtain⟨x99,gx99,hF⟩:=bS hF;have w100:ans A 402 [V.isl (y0.map enc)]=some (V.tup [(eC x99.a),V.int .i64 x99.b]):=s402 y0 gx99;obtain⟨x101,gx101,hF⟩:=bS hF;have w102:ans A 403 [(eC x99.a),V.int .i64 x99.b]=some (V.tup [V.bool x101.a,V.int .i64 x101.b]):=s403 x99.a x99.b gx101;obtain⟨x103,gx103,hF⟩:=bS hF;have w104:ans A 404 [(eC x99.a),V.int .i64 x99.b]=some (V.tup [V.bool x103.a,V.int .i64 x103.b]):=s404 x99.a x99.b gx103;by_cases c105:x95.b=x97.b
 ·rw[if_pos c105]at hF
  by_cases c106:x95.a=x97.a
  ·rw[if_pos c106]at hF
   by_cases c107:x101.b=x103.b
   ·rw[if_pos c107]at hF
    have hE:=wA hF; subst hE;simp only[simprocAttr, -Int.reduceNatCast',R0,j425_3, *];exact qd (by simp only[simprocAttr, -Int.reduceNatCast',R0,qe,p425,Rs.ev,qb, *])
   ·rw[if_neg c107]at hF
    have hE:=wA hF; subst hE;simp only[simprocAttr, -Int.reduceNatCast',R0,j425_3, *];exact qd (by simp only[simprocAttr, -Int.reduceNatCast',R0,qe,p425,Rs.ev,qb, *])
  ·rw[if_neg c106]at hF
   have hE:=wA hF; subst hE;simp only[simprocAttr, -Int.reduceNatCast',R0,j425_3, *];exact qd (by simp only[simprocAttr, -Int.reduceNatCast',R0,qe,p425,Rs.ev,qb, *])
 ·rw[if_neg c105]at hF
  have hE:=wA hF; subst hE;simp only[simprocAttr, -Int.reduceNatCast',R0,j425_3, *];exact qd (by simp only[simprocAttr, -Int.reduceNatCast',R0,qe,p425,Rs.ev,qb, *])
theorem k425_2_7(r0 r1 r2 r3 r4 r5 r6:Nat×Option (List V))(y0:List U8){r:Bool}(hF:F425_92 y0=some r){ck:Nat}{e:Env}(hC:e.length=308∧e.at 0=V.isl (y0.map enc)):W A jk e ⟨[r0,r1,r2,r3,r4,r5,r6],ck⟩ (Fin p425 (enc r)):=by
 obtain⟨hl_64,h0_64⟩:=hC;unfold F425_92 at hF;obtain⟨x65,gx65,hF⟩:=bS hF;have w66:ans A 396 [V.isl (y0.map enc)]=some (V.tup [(eC x65.a),(eC x65.b)]):=s396 y0 gx65;obtain⟨x67,gx67,hF⟩:=bS hF;have w68:ans A 397 [(eC x65.a),(eC x65.b)]=some (V.tup [(eC x67.a),V.int .i64 x67.b]):=s397 x65.a x65.b gx67;obtain⟨x69,gx69,hF⟩:=bS hF;have w70:ans A 398 [(eC x65.a),(eC x65.b)]=some (V.tup [(eC x69.a),V.int .i64 x69.b]):=s398 x65.a x65.b gx69;by_cases c71:x67.b=x69.b
 ·rw[if_pos c71]at hF
  obtain⟨x72,gx72,hF⟩:=bS hF;have w73:ans A 392 [(eC x67.a),(eC x69.a)]=some (V.bool x72):=s392 x67.a x69.a gx72;cases x72 with
  |true=>
   rw[if_pos rfl]at hF;by_cases c74:x67.b=0
   ·rw[if_pos c74]at hF
    obtain⟨x75,gx75,hF⟩:=bS hF;have w76:ans A 149 [(eC x65.a)]=some (V.tup [V.isl (x75.a.map enc),V.int .i64 x75.b]):=s149 x65.a gx75;obtain⟨x77,gx77,hF⟩:=bS hF;have w78:ans A 149 [(eC x65.b)]=some (V.tup [V.isl (x77.a.map enc),V.int .i64 x77.b]):=s149 x65.b gx77;obtain⟨x79,gx79,hF⟩:=bS hF;have w80:ans A 149 [(eC x67.a)]=some (V.tup [V.isl (x79.a.map enc),V.int .i64 x79.b]):=s149 x67.a gx79;by_cases c81:x75.b=0
    ·rw[if_pos c81]at hF
     by_cases c82:x77.b=0
     ·rw[if_pos c82]at hF
      by_cases c83:x79.b=0
      ·rw[if_pos c83]at hF
       obtain⟨x84,gx84,hF⟩:=bS hF;have w85:ans A 150 [V.isl (x75.a.map enc)]=some (V.int .i64 x84):=s150 x75.a gx84;obtain⟨x86,gx86,hF⟩:=bS hF;have w87:ans A 150 [V.isl (x77.a.map enc)]=some (V.int .i64 x86):=s150 x77.a gx86;obtain⟨x88,gx88,hF⟩:=bS hF;have wx88:=qy gx88;obtain⟨x89,gx89,hF⟩:=bS hF;have w90:ans A 150 [V.isl (x79.a.map enc)]=some (V.int .i64 x89):=s150 x79.a gx89;by_cases c91:x88=x89
       ·rw[if_pos c91]at hF
        simp only[simprocAttr, -Int.reduceNatCast',R0,jk,hl_64,h0_64,w66,w68,w70,eq_true c71,w73,eq_true c74,w76,w78,w80,eq_true c81,eq_true c82,eq_true c83,w85,w87,wx88,w90,eq_true c91];refine k425_3_11 _ _ _ _ _ _ _ _ _ _ _ y0 hF ?_;simp only[simprocAttr, -Int.reduceNatCast',R0,hl_64,h0_64,w66,w68,w70,eq_true c71,w73,eq_true c74,w76,w78,w80,eq_true c81,eq_true c82,eq_true c83,w85,w87,wx88,w90,eq_true c91]
       ·rw[if_neg c91]at hF
        have hE:=wA hF; subst hE;simp only[simprocAttr, -Int.reduceNatCast',R0,jk,hl_64,h0_64,w66,w68,w70,eq_true c71,w73,eq_true c74,w76,w78,w80,eq_true c81,eq_true c82,eq_true c83,w85,w87,wx88,w90,eq_false c91];exact qd (by simp only[simprocAttr, -Int.reduceNatCast',R0,qe,p425,Rs.ev,qb,hl_64,h0_64,w66,w68,w70,eq_true c71,w73,eq_true c74,w76,w78,w80,eq_true c81,eq_true c82,eq_true c83,w85,w87,wx88,w90,eq_false c91])
      ·rw[if_neg c83]at hF
       have hE:=wA hF; subst hE;simp only[simprocAttr, -Int.reduceNatCast',R0,jk,hl_64,h0_64,w66,w68,w70,eq_true c71,w73,eq_true c74,w76,w78,w80,eq_true c81,eq_true c82,eq_false c83];exact qd (by simp only[simprocAttr, -Int.reduceNatCast',R0,qe,p425,Rs.ev,qb,hl_64,h0_64,w66,w68,w70,eq_true c71,w73,eq_true c74,w76,w78,w80,eq_true c81,eq_true c82,eq_false c83])
     ·rw[if_neg c82]at hF
      have hE:=wA hF; subst hE;simp only[simprocAttr, -Int.reduceNatCast',R0,jk,hl_64,h0_64,w66,w68,w70,eq_true c71,w73,eq_true c74,w76,w78,w80,eq_true c81,eq_false c82];exact qd (by simp only[simprocAttr, -Int.reduceNatCast',R0,qe,p425,Rs.ev,qb,hl_64,h0_64,w66,w68,w70,eq_true c71,w73,eq_true c74,w76,w78,w80,eq_true c81,eq_false c82])
    ·rw[if_neg c81]at hF
     have hE:=wA hF; subst hE;simp only[simprocAttr, -Int.reduceNatCast',R0,jk,hl_64,h0_64,w66,w68,w70,eq_true c71,w73,eq_true c74,w76,w78,w80,eq_false c81];exact qd (by simp only[simprocAttr, -Int.reduceNatCast',R0,qe,p425,Rs.ev,qb,hl_64,h0_64,w66,w68,w70,eq_true c71,w73,eq_true c74,w76,w78,w80,eq_false c81])
   ·rw[if_neg c74]at hF
    simp only[simprocAttr, -Int.reduceNatCast',R0,jk,hl_64,h0_64,w66,w68,w70,eq_true c71,w73,eq_false c74];refine k425_3_11 _ _ _ _ _ _ _ _ _ _ _ y0 hF ?_;simp only[simprocAttr, -Int.reduceNatCast',R0,hl_64,h0_64,w66,w68,w70,eq_true c71,w73,eq_false c74]
  |false=>
   rw[if_neg wD]at hF;have hE:=wA hF; subst hE;simp only[simprocAttr, -Int.reduceNatCast',R0,jk,hl_64,h0_64,w66,w68,w70,eq_true c71,w73];exact qd (by simp only[simprocAttr, -Int.reduceNatCast',R0,qe,p425,Rs.ev,qb,hl_64,h0_64,w66,w68,w70,eq_true c71,w73])
 ·rw[if_neg c71]at hF
  have hE:=wA hF; subst hE;simp only[simprocAttr, -Int.reduceNatCast',R0,jk,hl_64,h0_64,w66,w68,w70,eq_false c71];exact qd (by simp only[simprocAttr, -Int.reduceNatCast',R0,qe,p425,Rs.ev,qb,hl_64,h0_64,w66,w68,w70,eq_false c71])
theorem k425_1_4(r0 r1 r2 r3:Nat×Option (List V))(y0:List U8){r:Bool}(hF:F425_91 y0=some r){ck:Nat}{e:Env}(hC:e.length=308∧e.at 0=V.isl (y0.map enc)):W A zX e ⟨[r0,r1,r2,r3],ck⟩ (Fin p425 (enc r)):=by
 obtain⟨hl_36,h0_36⟩:=hC;unfold F425_91 at hF;obtain⟨x37,gx37,hF⟩:=bS hF;have w38:ans A 393 [V.isl (y0.map enc)]=some (V.tup [(eC x37.a),V.int .i64 x37.b]):=s393 y0 gx37;obtain⟨x39,gx39,hF⟩:=bS hF;have w40:ans A 394 [(eC x37.a),V.int .i64 x37.b]=some (V.tup [(eC x39.a),V.int .i64 x39.b]):=s394 x37.a x37.b gx39;obtain⟨x41,gx41,hF⟩:=bS hF;have w42:ans A 395 [(eC x37.a),V.int .i64 x37.b]=some (V.tup [(eC x41.a),V.int .i64 x41.b]):=s395 x37.a x37.b gx41;by_cases c43:x39.b=x41.b
 ·rw[if_pos c43]at hF
  obtain⟨x44,gx44,hF⟩:=bS hF;have w45:ans A 392 [(eC x39.a),(eC x41.a)]=some (V.bool x44):=s392 x39.a x41.a gx44;cases x44 with
  |true=>
   rw[if_pos rfl]at hF;by_cases c46:x39.b=0
   ·rw[if_pos c46]at hF
    obtain⟨x47,gx47,hF⟩:=bS hF;have w48:ans A 149 [(eC x37.a)]=some (V.tup [V.isl (x47.a.map enc),V.int .i64 x47.b]):=s149 x37.a gx47;obtain⟨x49,gx49,hF⟩:=bS hF;have w50:ans A 149 [(eC x39.a)]=some (V.tup [V.isl (x49.a.map enc),V.int .i64 x49.b]):=s149 x39.a gx49;by_cases c51:x47.b=0
    ·rw[if_pos c51]at hF
     by_cases c52:x49.b=0
     ·rw[if_pos c52]at hF
      obtain⟨x53,gx53,hF⟩:=bS hF;have wx53:=qy gx53;by_cases c54:(x49.a.length:Int)=x53
      ·rw[if_pos c54]at hF
       obtain⟨l55,gl55,hF⟩:=bS hF;have w56:jY 1 (V.isl (x49.a.map enc)) (some (V.int .i64 x37.b)) none=some (V.isl (l55.map enc)):=xP (α:=Int) One.one gl55 (.inr rfl) (.inl ⟨rfl,rfl⟩);obtain⟨x57,gx57,hF⟩:=bS hF;have w58:ans A 156 [V.isl (l55.map enc),V.isl (x47.a.map enc)]=some (V.bool x57):=s156 l55 x47.a gx57;cases x57 with
       |true=>
        rw[if_pos rfl]at hF;obtain⟨l59,gl59,hF⟩:=bS hF;have w60:jY 1 (V.isl (x49.a.map enc)) none (some (V.int .i64 x37.b))=some (V.isl (l59.map enc)):=xP (α:=Int) One.one gl59 (.inl ⟨rfl,rfl⟩) (.inr rfl);obtain⟨x61,gx61,hF⟩:=bS hF;have w62:ans A 150 [V.isl (l59.map enc)]=some (V.int .i64 x61):=s150 l59 gx61;by_cases c63:x61=0
        ·rw[if_pos c63]at hF
         simp only[simprocAttr, -Int.reduceNatCast',R0,zX,hl_36,h0_36,w38,w40,w42,eq_true c43,w45,eq_true c46,w48,w50,eq_true c51,eq_true c52,wx53,eq_true c54,w56,w58,w60,w62,eq_true c63];refine k425_2_7 _ _ _ _ _ _ _ y0 hF ?_;simp only[simprocAttr, -Int.reduceNatCast',R0,hl_36,h0_36,w38,w40,w42,eq_true c43,w45,eq_true c46,w48,w50,eq_true c51,eq_true c52,wx53,eq_true c54,w56,w58,w60,w62,eq_true c63]
        ·rw[if_neg c63]at hF
         have hE:=wA hF; subst hE;simp only[simprocAttr, -Int.reduceNatCast',R0,zX,hl_36,h0_36,w38,w40,w42,eq_true c43,w45,eq_true c46,w48,w50,eq_true c51,eq_true c52,wx53,eq_true c54,w56,w58,w60,w62,eq_false c63];exact qd (by simp only[simprocAttr, -Int.reduceNatCast',R0,qe,p425,Rs.ev,qb,hl_36,h0_36,w38,w40,w42,eq_true c43,w45,eq_true c46,w48,w50,eq_true c51,eq_true c52,wx53,eq_true c54,w56,w58,w60,w62,eq_false c63])
       |false=>
        rw[if_neg wD]at hF;have hE:=wA hF; subst hE;simp only[simprocAttr, -Int.reduceNatCast',R0,zX,hl_36,h0_36,w38,w40,w42,eq_true c43,w45,eq_true c46,w48,w50,eq_true c51,eq_true c52,wx53,eq_true c54,w56,w58];exact qd (by simp only[simprocAttr, -Int.reduceNatCast',R0,qe,p425,Rs.ev,qb,hl_36,h0_36,w38,w40,w42,eq_true c43,w45,eq_true c46,w48,w50,eq_true c51,eq_true c52,wx53,eq_true c54,w56,w58])
      ·rw[if_neg c54]at hF
       have hE:=wA hF; subst hE;simp only[simprocAttr, -Int.reduceNatCast',R0,zX,hl_36,h0_36,w38,w40,w42,eq_true c43,w45,eq_true c46,w48,w50,eq_true c51,eq_true c52,wx53,eq_false c54];exact qd (by simp only[simprocAttr, -Int.reduceNatCast',R0,qe,p425,Rs.ev,qb,hl_36,h0_36,w38,w40,w42,eq_true c43,w45,eq_true c46,w48,w50,eq_true c51,eq_true c52,wx53,eq_false c54])
     ·rw[if_neg c52]at hF
      have hE:=wA hF; subst hE;simp only[simprocAttr, -Int.reduceNatCast',R0,zX,hl_36,h0_36,w38,w40,w42,eq_true c43,w45,eq_true c46,w48,w50,eq_true c51,eq_false c52];exact qd (by simp only[simprocAttr, -Int.reduceNatCast',R0,qe,p425,Rs.ev,qb,hl_36,h0_36,w38,w40,w42,eq_true c43,w45,eq_true c46,w48,w50,eq_true c51,eq_false c52])
    ·rw[if_neg c51]at hF
     have hE:=wA hF; subst hE;simp only[simprocAttr, -Int.reduceNatCast',R0,zX,hl_36,h0_36,w38,w40,w42,eq_true c43,w45,eq_true c46,w48,w50,eq_false c51];exact qd (by simp only[simprocAttr, -Int.reduceNatCast',R0,qe,p425,Rs.ev,qb,hl_36,h0_36,w38,w40,w42,eq_true c43,w45,eq_true c46,w48,w50,eq_false c51])
   ·rw[if_neg c46]at hF
    simp only[simprocAttr, -Int.reduceNatCast',R0,zX,hl_36,h0_36,w38,w40,w42,eq_true c43,w45,eq_false c46];refine k425_2_7 _ _ _ _ _ _ _ y0 hF ?_;simp only[simprocAttr, -Int.reduceNatCast',R0,hl_36,h0_36,w38,w40,w42,eq_true c43,w45,eq_false c46]
  |false=>
   rw[if_neg wD]at hF;have hE:=wA hF; subst hE;simp only[simprocAttr, -Int.reduceNatCast',R0,zX,hl_36,h0_36,w38,w40,w42,eq_true c43,w45];exact qd (by simp only[simprocAttr, -Int.reduceNatCast',R0,qe,p425,Rs.ev,qb,hl_36,h0_36,w38,w40,w42,eq_true c43,w45])
 ·rw[if_neg c43]at hF
  have hE:=wA hF; subst hE;simp only[simprocAttr, -Int.reduceNatCast',R0,zX,hl_36,h0_36,w38,w40,w42,eq_false c43];exact qd (by simp only[simprocAttr, -Int.reduceNatCast',R0,qe,p425,Rs.ev,qb,hl_36,h0_36,w38,w40,w42,eq_false c43])
theorem k425_3_10(r0 r1 r2 r3 r4 r5 r6 r7 r8 r9:Nat×Option (List V))(y0:List U8){r:Bool}(hF:F425_93 y0=some r){ck:Nat}{e:Env}(hC:e.length=308∧e.at 0=V.isl (y0.map enc)):W A j425_3 e ⟨[r0,r1,r2,r3,r4,r5,r6,r7,r8,r9],ck⟩ (Fin p425 (enc r)):=by
 obtain⟨hl_165,h0_165⟩:=hC;unfold F425_93 at hF;obtain⟨x166,gx166,hF⟩:=bS hF;have w167:ans A 399 [V.isl (y0.map enc)]=some ((eC x166)):=s399 y0 gx166;obtain⟨x168,gx168,hF⟩:=bS hF;have w169:ans A 400 [(eC x166)]=some (V.tup [V.int .i64 x168.a,V.int .i64 x168.b]):=s400 x166 gx168;obtain⟨x170,gx170,hF⟩:=bS hF;have w171:ans A 401 [(eC x166)]=some (V.tup [V.int .i64 x170.a,V.int .i64 x170.b]):=s401 x166 gx170;obtain⟨x172,gx172,hF⟩:=bS hF;have w173:ans A 402 [V.isl (y0.map enc)]=some (V.tup [(eC x172.a),V.int .i64 x172.b]):=s402 y0 gx172;obtain⟨x174,gx174,hF⟩:=bS hF;have w175:ans A 403 [(eC x172.a),V.int .i64 x172.b]=some (V.tup [V.bool x174.a,V.int .i64 x174.b]):=s403 x172.a x172.b gx174;obtain⟨x176,gx176,hF⟩:=bS hF;have w177:ans A 404 [(eC x172.a),V.int .i64 x172.b]=some (V.tup [V.bool x176.a,V.int .i64 x176.b]):=s404 x172.a x172.b gx176;by_cases c178:x168.b=x170.b
 ·rw[if_pos c178]at hF
  by_cases c179:x168.a=x170.a
  ·rw[if_pos c179]at hF
   by_cases c180:x174.b=x176.b
   ·rw[if_pos c180]at hF
    have hE:=wA hF; subst hE;simp only[simprocAttr, -Int.reduceNatCast',R0,j425_3, *];exact qd (by simp only[simprocAttr, -Int.reduceNatCast',R0,qe,p425,Rs.ev,qb, *])
   ·rw[if_neg c180]at hF
    have hE:=wA hF; subst hE;simp only[simprocAttr, -Int.reduceNatCast',R0,j425_3, *];exact qd (by simp only[simprocAttr, -Int.reduceNatCast',R0,qe,p425,Rs.ev,qb, *])
  ·rw[if_neg c179]at hF
   have hE:=wA hF; subst hE;simp only[simprocAttr, -Int.reduceNatCast',R0,j425_3, *];exact qd (by simp only[simprocAttr, -Int.reduceNatCast',R0,qe,p425,Rs.ev,qb, *])
 ·rw[if_neg c178]at hF
  have hE:=wA hF; subst hE;simp only[simprocAttr, -Int.reduceNatCast',R0,j425_3, *];exact qd (by simp only[simprocAttr, -Int.reduceNatCast',R0,qe,p425,Rs.ev,qb, *])
theorem k425_2_6(r0 r1 r2 r3 r4 r5:Nat×Option (List V))(y0:List U8){r:Bool}(hF:F425_92 y0=some r){ck:Nat}{e:Env}(hC:e.length=308∧e.at 0=V.isl (y0.map enc)):W A jk e ⟨[r0,r1,r2,r3,r4,r5],ck⟩ (Fin p425 (enc r)):=by
 obtain⟨hl_137,h0_137⟩:=hC;unfold F425_92 at hF;obtain⟨x138,gx138,hF⟩:=bS hF;have w139:ans A 396 [V.isl (y0.map enc)]=some (V.tup [(eC x138.a),(eC x138.b)]):=s396 y0 gx138;obtain⟨x140,gx140,hF⟩:=bS hF;have w141:ans A 397 [(eC x138.a),(eC x138.b)]=some (V.tup [(eC x140.a),V.int .i64 x140.b]):=s397 x138.a x138.b gx140;obtain⟨x142,gx142,hF⟩:=bS hF;have w143:ans A 398 [(eC x138.a),(eC x138.b)]=some (V.tup [(eC x142.a),V.int .i64 x142.b]):=s398 x138.a x138.b gx142;by_cases c144:x140.b=x142.b
 ·rw[if_pos c144]at hF
  obtain⟨x145,gx145,hF⟩:=bS hF;have w146:ans A 392 [(eC x140.a),(eC x142.a)]=some (V.bool x145):=s392 x140.a x142.a gx145;cases x145 with
  |true=>
   rw[if_pos rfl]at hF;by_cases c147:x140.b=0
   ·rw[if_pos c147]at hF
    obtain⟨x148,gx148,hF⟩:=bS hF;have w149:ans A 149 [(eC x138.a)]=some (V.tup [V.isl (x148.a.map enc),V.int .i64 x148.b]):=s149 x138.a gx148;obtain⟨x150,gx150,hF⟩:=bS hF;have w151:ans A 149 [(eC x138.b)]=some (V.tup [V.isl (x150.a.map enc),V.int .i64 x150.b]):=s149 x138.b gx150;obtain⟨x152,gx152,hF⟩:=bS hF;have w153:ans A 149 [(eC x140.a)]=some (V.tup [V.isl (x152.a.map enc),V.int .i64 x152.b]):=s149 x140.a gx152;by_cases c154:x148.b=0
    ·rw[if_pos c154]at hF
     by_cases c155:x150.b=0
     ·rw[if_pos c155]at hF
      by_cases c156:x152.b=0
      ·rw[if_pos c156]at hF
       obtain⟨x157,gx157,hF⟩:=bS hF;have w158:ans A 150 [V.isl (x148.a.map enc)]=some (V.int .i64 x157):=s150 x148.a gx157;obtain⟨x159,gx159,hF⟩:=bS hF;have w160:ans A 150 [V.isl (x150.a.map enc)]=some (V.int .i64 x159):=s150 x150.a gx159;obtain⟨x161,gx161,hF⟩:=bS hF;have wx161:=qy gx161;obtain⟨x162,gx162,hF⟩:=bS hF;have w163:ans A 150 [V.isl (x152.a.map enc)]=some (V.int .i64 x162):=s150 x152.a gx162;by_cases c164:x161=x162
       ·rw[if_pos c164]at hF
        simp only[simprocAttr, -Int.reduceNatCast',R0,jk,hl_137,h0_137,w139,w141,w143,eq_true c144,w146,eq_true c147,w149,w151,w153,eq_true c154,eq_true c155,eq_true c156,w158,w160,wx161,w163,eq_true c164];refine k425_3_10 _ _ _ _ _ _ _ _ _ _ y0 hF ?_;simp only[simprocAttr, -Int.reduceNatCast',R0,hl_137,h0_137,w139,w141,w143,eq_true c144,w146,eq_true c147,w149,w151,w153,eq_true c154,eq_true c155,eq_true c156,w158,w160,wx161,w163,eq_true c164]
       ·rw[if_neg c164]at hF
        have hE:=wA hF; subst hE;simp only[simprocAttr, -Int.reduceNatCast',R0,jk,hl_137,h0_137,w139,w141,w143,eq_true c144,w146,eq_true c147,w149,w151,w153,eq_true c154,eq_true c155,eq_true c156,w158,w160,wx161,w163,eq_false c164];exact qd (by simp only[simprocAttr, -Int.reduceNatCast',R0,qe,p425,Rs.ev,qb,hl_137,h0_137,w139,w141,w143,eq_true c144,w146,eq_true c147,w149,w151,w153,eq_true c154,eq_true c155,eq_true c156,w158,w160,wx161,w163,eq_false c164])
      ·rw[if_neg c156]at hF
       have hE:=wA hF; subst hE;simp only[simprocAttr, -Int.reduceNatCast',R0,jk,hl_137,h0_137,w139,w141,w143,eq_true c144,w146,eq_true c147,w149,w151,w153,eq_true c154,eq_true c155,eq_false c156];exact qd (by simp only[simprocAttr, -Int.reduceNatCast',R0,qe,p425,Rs.ev,qb,hl_137,h0_137,w139,w141,w143,eq_true c144,w146,eq_true c147,w149,w151,w153,eq_true c154,eq_true c155,eq_false c156])
     ·rw[if_neg c155]at hF
      have hE:=wA hF; subst hE;simp only[simprocAttr, -Int.reduceNatCast',R0,jk,hl_137,h0_137,w139,w141,w143,eq_true c144,w146,eq_true c147,w149,w151,w153,eq_true c154,eq_false c155];exact qd (by simp only[simprocAttr, -Int.reduceNatCast',R0,qe,p425,Rs.ev,qb,hl_137,h0_137,w139,w141,w143,eq_true c144,w146,eq_true c147,w149,w151,w153,eq_true c154,eq_false c155])
    ·rw[if_neg c154]at hF
     have hE:=wA hF; subst hE;simp only[simprocAttr, -Int.reduceNatCast',R0,jk,hl_137,h0_137,w139,w141,w143,eq_true c144,w146,eq_true c147,w149,w151,w153,eq_false c154];exact qd (by simp only[simprocAttr, -Int.reduceNatCast',R0,qe,p425,Rs.ev,qb,hl_137,h0_137,w139,w141,w143,eq_true c144,w146,eq_true c147,w149,w151,w153,eq_false c154])
   ·rw[if_neg c147]at hF
    simp only[simprocAttr, -Int.reduceNatCast',R0,jk,hl_137,h0_137,w139,w141,w143,eq_true c144,w146,eq_false c147];refine k425_3_10 _ _ _ _ _ _ _ _ _ _ y0 hF ?_;simp only[simprocAttr, -Int.reduceNatCast',R0,hl_137,h0_137,w139,w141,w143,eq_true c144,w146,eq_false c147]
  |false=>
   rw[if_neg wD]at hF;have hE:=wA hF; subst hE;simp only[simprocAttr, -Int.reduceNatCast',R0,jk,hl_137,h0_137,w139,w141,w143,eq_true c144,w146];exact qd (by simp only[simprocAttr, -Int.reduceNatCast',R0,qe,p425,Rs.ev,qb,hl_137,h0_137,w139,w141,w143,eq_true c144,w146])
 ·rw[if_neg c144]at hF
  have hE:=wA hF; subst hE;simp only[simprocAttr, -Int.reduceNatCast',R0,jk,hl_137,h0_137,w139,w141,w143,eq_false c144];exact qd (by simp only[simprocAttr, -Int.reduceNatCast',R0,qe,p425,Rs.ev,qb,hl_137,h0_137,w139,w141,w143,eq_false c144])
theorem k425_1_3(r0 r1 r2:Nat×Option (List V))(y0:List U8){r:Bool}(hF:F425_91 y0=some r){ck:Nat}{e:Env}(hC:e.length=308∧e.at 0=V.isl (y0.map enc)):W A zX e ⟨[r0,r1,r2],ck⟩ (Fin p425 (enc r)):=by
 obtain⟨hl_109,h0_109⟩:=hC;unfold F425_91 at hF;obtain⟨x110,gx110,hF⟩:=bS hF;have w111:ans A 393 [V.isl (y0.map enc)]=some (V.tup [(eC x110.a),V.int .i64 x110.b]):=s393 y0 gx110;obtain⟨x112,gx112,hF⟩:=bS hF;have w113:ans A 394 [(eC x110.a),V.int .i64 x110.b]=some (V.tup [(eC x112.a),V.int .i64 x112.b]):=s394 x110.a x110.b gx112;obtain⟨x114,gx114,hF⟩:=bS hF;have w115:ans A 395 [(eC x110.a),V.int .i64 x110.b]=some (V.tup [(eC x114.a),V.int .i64 x114.b]):=s395 x110.a x110.b gx114;by_cases c116:x112.b=x114.b
 ·rw[if_pos c116]at hF
  obtain⟨x117,gx117,hF⟩:=bS hF;have w118:ans A 392 [(eC x112.a),(eC x114.a)]=some (V.bool x117):=s392 x112.a x114.a gx117;cases x117 with
  |true=>
   rw[if_pos rfl]at hF;by_cases c119:x112.b=0
   ·rw[if_pos c119]at hF
    obtain⟨x120,gx120,hF⟩:=bS hF;have w121:ans A 149 [(eC x110.a)]=some (V.tup [V.isl (x120.a.map enc),V.int .i64 x120.b]):=s149 x110.a gx120;obtain⟨x122,gx122,hF⟩:=bS hF;have w123:ans A 149 [(eC x112.a)]=some (V.tup [V.isl (x122.a.map enc),V.int .i64 x122.b]):=s149 x112.a gx122;by_cases c124:x120.b=0
    ·rw[if_pos c124]at hF
     by_cases c125:x122.b=0
     ·rw[if_pos c125]at hF
      obtain⟨x126,gx126,hF⟩:=bS hF;have wx126:=qy gx126;by_cases c127:(x122.a.length:Int)=x126
      ·rw[if_pos c127]at hF
       obtain⟨l128,gl128,hF⟩:=bS hF;have w129:jY 1 (V.isl (x122.a.map enc)) (some (V.int .i64 x110.b)) none=some (V.isl (l128.map enc)):=xP (α:=Int) One.one gl128 (.inr rfl) (.inl ⟨rfl,rfl⟩);obtain⟨x130,gx130,hF⟩:=bS hF;have w131:ans A 156 [V.isl (l128.map enc),V.isl (x120.a.map enc)]=some (V.bool x130):=s156 l128 x120.a gx130;cases x130 with
       |true=>
        rw[if_pos rfl]at hF;obtain⟨l132,gl132,hF⟩:=bS hF;have w133:jY 1 (V.isl (x122.a.map enc)) none (some (V.int .i64 x110.b))=some (V.isl (l132.map enc)):=xP (α:=Int) One.one gl132 (.inl ⟨rfl,rfl⟩) (.inr rfl);obtain⟨x134,gx134,hF⟩:=bS hF;have w135:ans A 150 [V.isl (l132.map enc)]=some (V.int .i64 x134):=s150 l132 gx134;by_cases c136:x134=0
        ·rw[if_pos c136]at hF
         simp only[simprocAttr, -Int.reduceNatCast',R0,zX,hl_109,h0_109,w111,w113,w115,eq_true c116,w118,eq_true c119,w121,w123,eq_true c124,eq_true c125,wx126,eq_true c127,w129,w131,w133,w135,eq_true c136];refine k425_2_6 _ _ _ _ _ _ y0 hF ?_;simp only[simprocAttr, -Int.reduceNatCast',R0,hl_109,h0_109,w111,w113,w115,eq_true c116,w118,eq_true c119,w121,w123,eq_true c124,eq_true c125,wx126,eq_true c127,w129,w131,w133,w135,eq_true c136]
        ·rw[if_neg c136]at hF
         have hE:=wA hF; subst hE;simp only[simprocAttr, -Int.reduceNatCast',R0,zX,hl_109,h0_109,w111,w113,w115,eq_true c116,w118,eq_true c119,w121,w123,eq_true c124,eq_true c125,wx126,eq_true c127,w129,w131,w133,w135,eq_false c136];exact qd (by simp only[simprocAttr, -Int.reduceNatCast',R0,qe,p425,Rs.ev,qb,hl_109,h0_109,w111,w113,w115,eq_true c116,w118,eq_true c119,w121,w123,eq_true c124,eq_true c125,wx126,eq_true c127,w129,w131,w133,w135,eq_false c136])
       |false=>
        rw[if_neg wD]at hF;have hE:=wA hF; subst hE;simp only[simprocAttr, -Int.reduceNatCast',R0,zX,hl_109,h0_109,w111,w113,w115,eq_true c116,w118,eq_true c119,w121,w123,eq_true c124,eq_true c125,wx126,eq_true c127,w129,w131];exact qd (by simp only[simprocAttr, -Int.reduceNatCast',R0,qe,p425,Rs.ev,qb,hl_109,h0_109,w111,w113,w115,eq_true c116,w118,eq_true c119,w121,w123,eq_true c124,eq_true c125,wx126,eq_true c127,w129,w131])
      ·rw[if_neg c127]at hF
       have hE:=wA hF; subst hE;simp only[simprocAttr, -Int.reduceNatCast',R0,zX,hl_109,h0_109,w111,w113,w115,eq_true c116,w118,eq_true c119,w121,w123,eq_true c124,eq_true c125,wx126,eq_false c127];exact qd (by simp only[simprocAttr, -Int.reduceNatCast',R0,qe,p425,Rs.ev,qb,hl_109,h0_109,w111,w113,w115,eq_true c116,w118,eq_true c119,w121,w123,eq_true c124,eq_true c125,wx126,eq_false c127])
     ·rw[if_neg c125]at hF
      have hE:=wA hF; subst hE;simp only[simprocAttr, -Int.reduceNatCast',R0,zX,hl_109,h0_109,w111,w113,w115,eq_true c116,w118,eq_true c119,w121,w123,eq_true c124,eq_false c125];exact qd (by simp only[simprocAttr, -Int.reduceNatCast',R0,qe,p425,Rs.ev,qb,hl_109,h0_109,w111,w113,w115,eq_true c116,w118,eq_true c119,w121,w123,eq_true c124,eq_false c125])
    ·rw[if_neg c124]at hF
     have hE:=wA hF; subst hE;simp only[simprocAttr, -Int.reduceNatCast',R0,zX,hl_109,h0_109,w111,w113,w115,eq_true c116,w118,eq_true c119,w121,w123,eq_false c124];exact qd (by simp only[simprocAttr, -Int.reduceNatCast',R0,qe,p425,Rs.ev,qb,hl_109,h0_109,w111,w113,w115,eq_true c116,w118,eq_true c119,w121,w123,eq_false c124])
   ·rw[if_neg c119]at hF
    simp only[simprocAttr, -Int.reduceNatCast',R0,zX,hl_109,h0_109,w111,w113,w115,eq_true c116,w118,eq_false c119];refine k425_2_6 _ _ _ _ _ _ y0 hF ?_;simp only[simprocAttr, -Int.reduceNatCast',R0,hl_109,h0_109,w111,w113,w115,eq_true c116,w118,eq_false c119]
  |false=>
   rw[if_neg wD]at hF;have hE:=wA hF; subst hE;simp only[simprocAttr, -Int.reduceNatCast',R0,zX,hl_109,h0_109,w111,w113,w115,eq_true c116,w118];exact qd (by simp only[simprocAttr, -Int.reduceNatCast',R0,qe,p425,Rs.ev,qb,hl_109,h0_109,w111,w113,w115,eq_true c116,w118])
 ·rw[if_neg c116]at hF
  have hE:=wA hF; subst hE;simp only[simprocAttr, -Int.reduceNatCast',R0,zX,hl_109,h0_109,w111,w113,w115,eq_false c116];exact qd (by simp only[simprocAttr, -Int.reduceNatCast',R0,qe,p425,Rs.ev,qb,hl_109,h0_109,w111,w113,w115,eq_false c116])
theorem s425(a0:List U8){r:Bool}(hF:F425 a0=some r):ans A 425 [V.isl (a0.map enc)]=some (enc r):=by
 refine qA (f:=p425) rfl rfl rfl fun e hl he=>?_;have h0_0:e.at 0=V.isl (a0.map enc):=he 0 _ rfl;have hl_0:e.length=308:=hl;clear he hl;have h_0:=ai hl_0 h0_0;show W A b425 e ⟨[],0⟩ _;unfold F425 at hF;obtain⟨x1,gx1,hF⟩:=bS hF;have w2:ans A 140 [V.isl (a0.map enc)]=some (V.bool x1):=s140 a0 gx1;cases x1 with
 |true=>
  rw[if_pos rfl]at hF;cases hF;simp only[simprocAttr,R0,b425,h_0,w2];exact qd (by simp only[simprocAttr,R0,qe,p425,Rs.ev,qb,h_0,w2])
 |false=>
  rw[if_neg wD]at hF;obtain⟨x3,gx3,hF⟩:=bS hF;have w4:ans A 389 [V.isl (a0.map enc)]=some ((eC x3)):=s389 a0 gx3;obtain⟨x5,gx5,hF⟩:=bS hF;have w6:ans A 390 [(eC x3)]=some (V.tup [(eC x5.a),V.int .i64 x5.b]):=s390 x3 gx5;obtain⟨x7,gx7,hF⟩:=bS hF;have w8:ans A 391 [(eC x3)]=some (V.tup [(eC x7.a),V.int .i64 x7.b]):=s391 x3 gx7;by_cases c9:x5.b=x7.b
  ·rw[if_pos c9]at hF
   obtain⟨x10,gx10,hF⟩:=bS hF;have w11:ans A 392 [(eC x5.a),(eC x7.a)]=some (V.bool x10):=s392 x5.a x7.a gx10;cases x10 with
   |true=>
    rw[if_pos rfl]at hF;by_cases c12:x5.b=0
    ·rw[if_pos c12]at hF
     obtain⟨x13,gx13,hF⟩:=bS hF;have w14:ans A 390 [(eC x5.a)]=some (V.tup [(eC x13.a),V.int .i64 x13.b]):=s390 x5.a gx13;obtain⟨x15,gx15,hF⟩:=bS hF;have w16:ans A 149 [(eC x3)]=some (V.tup [V.isl (x15.a.map enc),V.int .i64 x15.b]):=s149 x3 gx15;obtain⟨x17,gx17,hF⟩:=bS hF;have w18:ans A 149 [(eC x5.a)]=some (V.tup [V.isl (x17.a.map enc),V.int .i64 x17.b]):=s149 x5.a gx17;by_cases c19:x13.b=0
     ·rw[if_pos c19]at hF
      by_cases c20:x15.b=0
      ·rw[if_pos c20]at hF
       by_cases c21:x17.b=0
       ·rw[if_pos c21]at hF
        obtain⟨x22,gx22,hF⟩:=bS hF;have w23:ans A 392 [(eC x13.a),(eC x3)]=some (V.bool x22):=s392 x13.a x3 gx22;cases x22 with
        |true=>
         rw[if_pos rfl]at hF;by_cases c24:(x15.a.length:Int)=(x17.a.length:Int)
         ·rw[if_pos c24]at hF
          obtain⟨t35,gt35,hF⟩:=bS hF;rcases t35 with _|r108
          ·dsimp only at hF
           simp only[simprocAttr,R0,b425,h_0,w2,w4,w6,w8,eq_true c9,w11,eq_true c12,w14,w16,w18,eq_true c19,eq_true c20,eq_true c21,w23,eq_true c24];refine W.mono (l425_1 a0 x3 x5 x7 x13 x15 x17 gt35 (ei _ (ai rfl ?_))) ?_
           ·simp only[simprocAttr,R0,h_0,w2,w4,w6,w8,eq_true c9,w11,eq_true c12,w14,w16,w18,eq_true c19,eq_true c20,eq_true c21,w23,eq_true c24]
           rintro _ e _ ⟨rfl,k26,rfl,h_27⟩;simp only[simprocAttr,R0,h_27,eq_true c9,eq_true c12,eq_true c19,eq_true c20,eq_true c21,eq_true c24];refine k425_1_4 _ _ _ _ a0 hF ?_;simp only[simprocAttr,R0,h_27,eq_true c9,eq_true c12,eq_true c19,eq_true c20,eq_true c21,eq_true c24]
          ·dsimp only at hF
           cases hF;simp only[simprocAttr,R0,b425,h_0,w2,w4,w6,w8,eq_true c9,w11,eq_true c12,w14,w16,w18,eq_true c19,eq_true c20,eq_true c21,w23,eq_true c24];refine W.mono (l425_1 a0 x3 x5 x7 x13 x15 x17 gt35 (ei _ (ai rfl ?_))) ?_
           ·simp only[simprocAttr,R0,h_0,w2,w4,w6,w8,eq_true c9,w11,eq_true c12,w14,w16,w18,eq_true c19,eq_true c20,eq_true c21,w23,eq_true c24]
           rintro _ e h ⟨rfl,hq⟩;simp only[simprocAttr,RR,RB];exact hq
         ·rw[if_neg c24]at hF
          cases hF;simp only[simprocAttr,R0,b425,h_0,w2,w4,w6,w8,eq_true c9,w11,eq_true c12,w14,w16,w18,eq_true c19,eq_true c20,eq_true c21,w23,eq_false c24];exact qd (by simp only[simprocAttr,R0,qe,p425,Rs.ev,qb,h_0,w2,w4,w6,w8,eq_true c9,w11,eq_true c12,w14,w16,w18,eq_true c19,eq_true c20,eq_true c21,w23,eq_false c24])
        |false=>
         rw[if_neg wD]at hF;cases hF;simp only[simprocAttr,R0,b425,h_0,w2,w4,w6,w8,eq_true c9,w11,eq_true c12,w14,w16,w18,eq_true c19,eq_true c20,eq_true c21,w23];exact qd (by simp only[simprocAttr,R0,qe,p425,Rs.ev,qb,h_0,w2,w4,w6,w8,eq_true c9,w11,eq_true c12,w14,w16,w18,eq_true c19,eq_true c20,eq_true c21,w23])
       ·rw[if_neg c21]at hF
        cases hF;simp only[simprocAttr,R0,b425,h_0,w2,w4,w6,w8,eq_true c9,w11,eq_true c12,w14,w16,w18,eq_true c19,eq_true c20,eq_false c21];exact qd (by simp only[simprocAttr,R0,qe,p425,Rs.ev,qb,h_0,w2,w4,w6,w8,eq_true c9,w11,eq_true c12,w14,w16,w18,eq_true c19,eq_true c20,eq_false c21])
      ·rw[if_neg c20]at hF
       cases hF;simp only[simprocAttr,R0,b425,h_0,w2,w4,w6,w8,eq_true c9,w11,eq_true c12,w14,w16,w18,eq_true c19,eq_false c20];exact qd (by simp only[simprocAttr,R0,qe,p425,Rs.ev,qb,h_0,w2,w4,w6,w8,eq_true c9,w11,eq_true c12,w14,w16,w18,eq_true c19,eq_false c20])
     ·rw[if_neg c19]at hF
      cases hF;simp only[simprocAttr,R0,b425,h_0,w2,w4,w6,w8,eq_true c9,w11,eq_true c12,w14,w16,w18,eq_false c19];exact qd (by simp only[simprocAttr,R0,qe,p425,Rs.ev,qb,h_0,w2,w4,w6,w8,eq_true c9,w11,eq_true c12,w14,w16,w18,eq_false c19])
    ·rw[if_neg c12]at hF
     simp only[simprocAttr,R0,b425,h_0,w2,w4,w6,w8,eq_true c9,w11,eq_false c12];refine k425_1_3 _ _ _ a0 hF ?_;simp only[simprocAttr,R0,h_0,w2,w4,w6,w8,eq_true c9,w11,eq_false c12]
   |false=>
    rw[if_neg wD]at hF;cases hF;simp only[simprocAttr,R0,b425,h_0,w2,w4,w6,w8,eq_true c9,w11];exact qd (by simp only[simprocAttr,R0,qe,p425,Rs.ev,qb,h_0,w2,w4,w6,w8,eq_true c9,w11])
  ·rw[if_neg c9]at hF
   cases hF;simp only[simprocAttr,R0,b425,h_0,w2,w4,w6,w8,eq_false c9];exact qd (by simp only[simprocAttr,R0,qe,p425,Rs.ev,qb,h_0,w2,w4,w6,w8,eq_false c9])
end
end Rv
