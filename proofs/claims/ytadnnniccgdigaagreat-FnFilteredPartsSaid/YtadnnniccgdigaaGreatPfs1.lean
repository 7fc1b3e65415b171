/- What the abstract code answers: typed functions, part 2. -/
import Derived.Test.YtadnnniccgdigaaGreatPfs0
namespace Rv
open Enc (enc)
set_option linter.unusedVariables false
set_option linter.unusedSimpArgs false
set_option maxRecDepth 100000
noncomputable section
def F186(a0:qe)(a1:Int):Option aJ:=
 if a1 < 0 then
  some ([]:aJ)
 else
  (F86 a0).bind fun x2=>
  if x2≤a1 then
   some ([]:aJ)
  else
   (getI a0.M a1).bind fun x5=>
   (F133 a0.P x5).bind fun x7=>
   some x7
theorem s186(a0:qe)(a1:Int){r:aJ}(hF:F186 a0 a1=some r):ans A 186 [(eC a0),iI a1]=some (enc r):=by
 refine qB (f:=p186) rfl rfl rfl fun e hl he=>?_;have aA:=he 0 _ rfl;have aB:=he 1 _ rfl;have hl_0:e.length=21:=hl;clear he hl;have h_0:=ai hl_0 (ai aA aB);show W A b186 e ⟨[],0⟩ _;unfold F186 at hF;by_cases c1:a1 < 0
 ·rw[if_pos c1]at hF
  cases hF;simp only[simprocAttr,R0,b186, *];exact qh (by simp only[simprocAttr,R0,qg,p186,Rs.ev,qd, *])
 ·rw[if_neg c1]at hF
  obtain⟨x2,iS,hF⟩:=bS hF;have w3:=s86 a0 iS;by_cases c4:x2≤a1
  ·rw[if_pos c4]at hF
   cases hF;simp only[simprocAttr,R0,b186, *];exact qh (by simp only[simprocAttr,R0,qg,p186,Rs.ev,qd, *])
  ·rw[if_neg c4]at hF
   obtain⟨x5,dB,hF⟩:=bS hF;obtain⟨lH,lG⟩:=qm dB;obtain⟨x7,dQ,hF⟩:=bS hF;have w8:=s133 a0.P x5 dQ;cases hF;simp only[simprocAttr,R0,b186, *];exact qh (by simp only[simprocAttr,R0,qg,p186,Rs.ev,qd, *])
def F200_1_B(ls:L3)(i:Int)(s:Int):Option (Int⊕Int):=(getI ls i).bind fun l=>(chk (s+(l.length:Int))).bind fun n=> if n < 0 then none else some (.inl n)
def F200_1_D(i:Int)(s:Int):Option Int:=some s
def F200_2_B(ls:L3)(i:Int)(s:aJ):Option (aJ⊕aJ):=(getI ls i).bind fun l=>(app 24 s l).bind fun r=> some (.inl r)
def F200_2_D(i:Int)(s:aJ):Option aJ:=some s
def F200(ls:L3):Option aJ:=(forR 0 (ls.length:Int) (F200_1_B ls) F200_1_D 0).bind fun n=> if 0≤n∧n*24≤1099511627776 then forR 0 (ls.length:Int) (F200_2_B ls) F200_2_D []else none
def GR200(v:V)(l:aJ)(E:List (nO)):Prop:=(v= .nils∧l=[])∨∃key uid cs,v= .sl key uid 0 l.length 1∧E[key]? =some (uid,some (List.map enc l++cs))
theorem ap200{l l' l2:aJ}{v:V}{E:List (nO)}{c:Nat}(g:app 24 l l'=some l2)(h:GR200 v l E):∃v' E' c',qS 1 24 v l'.length (List.map enc l') ⟨E,c⟩=some (v',⟨E',c'⟩)∧GR200 v' l2 E':=by
 obtain⟨q1,q2,rfl⟩:=app_w g;by_cases h0:l'.length=0
 ·have:l'=[]:=wY h0
  subst this;rw[vK];rcases h with⟨rfl,rfl⟩|⟨key,uid,cs,rfl,h1⟩
  ·exact⟨_,_,_,rfl,.inl ⟨rfl,rfl⟩⟩
  ·exact⟨_,_,_,rfl,.inr ⟨key,uid,cs,rfl,h1⟩⟩
 ·rcases h with⟨rfl,rfl⟩|⟨key,uid,cs,rfl,h1⟩
  ·refine⟨.sl E.length c 0 l'.length 1,E++[(c,some (List.map enc l'))],c+1,?_,.inr ⟨E.length,c,[],rfl,?_⟩⟩
   ·simp only[vG,wX]at q1 q2
    unfold qS;rw[if_neg h0];simp only;rw[if_pos ⟨q1,q2⟩]; rfl
   ·rw[qw,vN,vK]
  ·have hk:key < E.length:=gA h1
   refine⟨.sl key c 0 (l++l').length 1,E.set key (c,some (List.map enc (l++l'))),c+1,?_,.inr ⟨key,c,[],rfl,?_⟩⟩
   ·have hg:Heap.get ⟨E,c⟩ key uid=some (List.map enc l++cs):=by simp[Heap.get,h1]
    unfold qS;rw[if_neg h0];simp only[hg];rw[if_pos ⟨by simp,by trivial,q1,q2⟩];have e:List.take (l.length*1) (List.drop 0 (List.map enc l++cs))=List.map enc l:=by rw[vO,yE,List.take_append_of_le_length (by simp)]; exact wR (by simp)
    rw[e,←yI,wM]; rfl
   ·rw[vK,gS hk]
theorem fz200{l:aJ}{v:V}{E:List (nO)}{c:Nat}(h:GR200 v l E):frz ⟨E,c⟩ FZ v=some (iL l):=by
 rcases h with⟨rfl,rfl⟩|⟨key,uid,cs,rfl,h1⟩
 ·rfl
 ·have hg:Heap.get ⟨E,c⟩ key uid=some (List.map enc l++cs):=by simp[Heap.get,h1]
  show frz ⟨E,c⟩ (15+1) _=_;have e:List.take (l.length*1) (List.drop 0 (List.map enc l++cs))=List.map enc l:=by rw[vO,yE,List.take_append_of_le_length (by simp)]; exact wR (by simp)
  simp only[frz,hg];rw[if_pos ⟨by simp,by decide⟩,e,frzs (α:=L1) l];simp[jC]
theorem g201{n:Int}(h0:0≤n)(h1:n*24≤1099511627776):∃v h',res A 201 [V.nils,iI n] ⟨[],0⟩=some (v,h')∧GR200 v [] h'.ents:=by
 refine xp (f:=p201) rfl rfl rfl fun e hl he=>?_;have aA:=he 0 _ rfl;have aB:=he 1 _ rfl;have hl_0:e.length=27:=hl;clear he hl;show W A b201 e ⟨[],0⟩ _;have z0:((0:Nat):Int)=0:=rfl;have z1:(0:Int)≤(n.toNat:Int):=Int.natCast_nonneg _;have z24:((24:Nat):Int)=24:=rfl;have w0:Go.IntKind.wrap .i64 (0 - 0)=0:=by decide
 have w1:Go.IntKind.wrap .i64 (n - 0)=n:=by rw[Int.sub_zero]; exact wrap_i64 (by omega) (by omega)
 have c0:¬n < 0:=by omega
 by_cases c1:0 < n
 ·have c2:¬n.toNat=0:=by omega
  have c3:n.toNat*24≤1099511627776∧n.toNat≤1099511627776:=⟨by omega,by omega⟩;have c4:0≤n∧n≤1099511627776∧n*24≤1099511627776:=⟨h0,by omega,h1⟩;simp only[↓reduceIte,Nat.reduceAdd,Nat.reduceMul,Nat.reduceSub,Nat.reduceLT,Nat.reduceLeDiff,Nat.reduceEqDiff,Nat.reducePow,Int.reducePow,Int.reduceLE,Int.reduceLT,Int.reduceEq,Int.reduceToNat,reduceCtorEq,R0,b201,z0,z24,eq_true z1,eq_true h1,true_or,xA,jB,lenV,intV,qS,Option.map,X.ev,decide_true,decide_false, *];refine ai (fun _=> trivial) ⟨_,by simp only[↓reduceIte,Nat.reduceAdd,Nat.reduceMul,Nat.reduceSub,Nat.reduceLT,Nat.reduceLeDiff,Nat.reduceEqDiff,Nat.reducePow,Int.reducePow,Int.reduceLE,Int.reduceLT,Int.reduceEq,Int.reduceToNat,reduceCtorEq,R0,qg,p201,Rs.ev, *],.inr ⟨0,0,_,rfl,rfl⟩⟩
 ·have:n=0:=by omega
  subst this;simp only[↓reduceIte,Nat.reduceAdd,Nat.reduceMul,Nat.reduceSub,Nat.reduceLT,Nat.reduceLeDiff,Nat.reduceEqDiff,Nat.reducePow,Int.reducePow,Int.reduceLE,Int.reduceLT,Int.reduceEq,Int.reduceToNat,reduceCtorEq,R0,b201,z0,z24,eq_true z1,eq_true h1,true_or,xA,jB,lenV,intV,qS,Option.map,X.ev, *];refine ai (fun _=> trivial) ⟨_,by simp only[↓reduceIte,Nat.reduceAdd,Nat.reduceMul,Nat.reduceSub,Nat.reduceLT,Nat.reduceLeDiff,Nat.reduceEqDiff,Nat.reducePow,Int.reducePow,Int.reduceLE,Int.reduceLT,Int.reduceEq,Int.reduceToNat,reduceCtorEq,R0,qg,p201,Rs.ev, *],.inl ⟨rfl,rfl⟩⟩
set_option maxHeartbeats 8000000 in
theorem s200(ls:L3){r:aJ}(hF:F200 ls=some r):ans A 200 [iL ls]=some (iL r):=by
 refine qB (f:=p200) rfl rfl rfl fun e hl he=>?_;have aA:=he 0 _ rfl;have hl_0:e.length=36:=hl;clear he hl;show W A b200 e ⟨[],0⟩ _;unfold F200 at hF;obtain⟨n,gn,hF⟩:=bS hF;by_cases c0:0≤n∧n*24≤1099511627776
 case neg=> rw[if_neg c0]at hF; cases hF
 rw[if_pos c0]at hF;obtain⟨v0,⟨E0,k0⟩,g1,g2⟩:=g201 c0.1 c0.2;simp only[simprocAttr,R0,b200, *];refine W.mono (Q:=fun x e h=> x= .normal∧h=⟨[],0⟩∧e.length=36∧e.at 0=iL ls∧e.at 3=iI n) ?_ ?_
 ·show W A (.block 0 (.loop true b200_1)) _ _ _
  rw[qp];refine qF gn _ rfl (fun i s e h=> h=⟨[],0⟩∧e.length=36∧e.at 0=iL ls∧e.at 3=iI s∧e.at 9=iL ls∧e.at 10=iI (ls.length:Int)∧e.at 11=iI i) ?_ ?_ ?_
  ·simp only[simprocAttr,R0, *]
  ·clear hl_0 aA
   rintro i s e h ⟨rfl,h_1⟩ hlt hw s' ho;unfold F200_1_B at ho;obtain⟨l,gl,ho⟩:=bS ho;obtain⟨la,lb⟩:=qm gl;obtain⟨m,gm,ho⟩:=bS ho;have wm:=qD gm;by_cases c1:m < 0
   ·rw[if_pos c1]at ho; cases ho
   rw[if_neg c1]at ho;cases ho;simp only[simprocAttr,R0,b200_1,la,lb, *];refine ai rfl (ai rfl ?_);simp only[simprocAttr,R0, *]
  ·clear hl_0 aA
   rintro i s e h ⟨rfl,h_1⟩ hge t1 ho;unfold F200_1_D at ho;cases ho;simp only[simprocAttr,R0,b200_1, *];intro ht; subst ht;simp only[simprocAttr,R0, *]
 clear hl_0 aA;rintro _ e _ ⟨rfl,rfl,hl_0,aA,cX⟩;simp only[simprocAttr,R0,qQ, *];refine W.mono (Q:=fun x e h=> x= .normal∧e.length=36∧∃v,e.at 6=v∧GR200 v r h.ents) ?_ ?_
 ·show W A (.block 2 (.loop true b200_2)) _ _ _
  rw[qp];refine qF hF _ rfl (fun i s e h=>∃v,GR200 v s h.ents∧e.length=36∧e.at 6=v∧e.at 25=iL ls∧e.at 26=iI (ls.length:Int)∧e.at 27=iI i) ?_ ?_ ?_
  ·refine⟨v0,g2,?_⟩
   simp only[simprocAttr,R0, *]
  ·clear hl_0 aA cX
   rintro i s e ⟨E,k⟩ ⟨v,g3,h_1⟩ hlt hw s' ho;unfold F200_2_B at ho;obtain⟨l,gl,ho⟩:=bS ho;obtain⟨la,lb⟩:=qm gl;obtain⟨l2,tJ,ho⟩:=bS ho;cases ho;obtain⟨v',E',k',a1,a2⟩:=ap200 (c:=k) tJ g3;simp only[simprocAttr,R0,b200_2,la,lb,srcV_enc (α:=L1),a1, *];refine ai rfl ⟨v',a2,?_⟩;simp only[simprocAttr,R0, *]
  ·clear hl_0 aA cX
   rintro i s e ⟨E,k⟩ ⟨v,g3,h_1⟩ hge t1 ho;unfold F200_2_D at ho;cases ho;simp only[simprocAttr,R0,b200_2, *];intro ht; subst ht;exact⟨v,rfl,g3⟩
 clear hl_0 aA cX;rintro _ e ⟨E,k⟩ ⟨rfl,hl_0,v,j9,g3⟩;simp only[simprocAttr,R0, *];have z:frz ⟨E,k⟩ 16 v=some (iL r):=fz200 (c:=k) g3;exact qh (by simp only[simprocAttr,R0,qg,p200,Rs.ev,z, *])
def F183(a0:Int)(d0:qe)(d1:qc)(d2:Int):Option Int:=
 (F184 d1 6 d2 a0).bind fun x1=>
 (F186 d0 d2).bind fun x3=>
 (F200 [x1,x3]).bind fun x5=>
 (F133 d0.P x5).bind fun x7=>
 some (x7.length:Int)
theorem s183(a0:Int)(d0:qe)(d1:qc)(d2:Int){r:Int}(hF:F183 a0 d0 d1 d2=some r):ans A 183 [iI a0,eP d0,eQ d1,V.iptr [iI d2]]=some (enc r):=by
 refine qB (f:=p183) rfl rfl rfl fun e hl he=>?_;have aA:=he 0 _ rfl;have aB:=he 1 _ rfl;have aU:=he 2 _ rfl;have cX:=he 3 _ rfl;have hl_0:e.length=19:=hl;clear he hl;show W A b183 e ⟨[],0⟩ _;unfold F183 at hF;obtain⟨x1,bD,hF⟩:=bS hF;have w2:ans A 184 [(eF d1),iI 6,iI d2,iI a0]=some (iL x1):=s184 d1 6 d2 a0 bD;obtain⟨x3,dN,hF⟩:=bS hF;have w4:ans A 186 [(eC d0),iI d2]=some (iL x3):=s186 d0 d2 dN;obtain⟨x5,dB,hF⟩:=bS hF;have w6:ans A 200 [V.isl [iL x1,iL x3]]=some (iL x5):=s200 [x1,x3] dB;obtain⟨x7,dQ,hF⟩:=bS hF;have w8:ans A 133 [iI d0.P,iL x5]=some (iL x7):=s133 d0.P x5 dQ;have rL:ans A 89 [iL x7]=some (iI (x7.length:Int)):=s89 x7 rfl;cases hF;simp only[simprocAttr,R0,b183, *];exact qh (by simp only[simprocAttr,R0,qg,p183,Rs.ev,qd, *])
def F161(a0:qc)(a1 a2:Int):Option Int:=(F183 a2 a0.C a0 a1).bind fun u=>(chk (a2 - 1)).bind fun q=>(F183 q a0.C a0 a1).bind fun v=> chk (u - v)
theorem s161(a0:qc)(a1 a2:Int){r:Int}(hF:F161 a0 a1 a2=some r):ans A 161 [(eF a0),iI a1,iI a2]=some (iI r):=by
 refine qB (f:=p161) rfl rfl rfl fun e hl he=>?_;have aA:=he 0 _ rfl;have aB:=he 1 _ rfl;have aU:=he 2 _ rfl;have hl_0:e.length=20:=hl;clear he hl;show W A b161 e ⟨[],0⟩ _;unfold F161 at hF;obtain⟨u,gu,hF⟩:=bS hF;have wu:ans A 183 [iI a2,eP a0.C,eQ a0,V.iptr [iI a1]]=some (iI u):=s183 a2 a0.C a0 a1 gu;obtain⟨q,gq,hF⟩:=bS hF;have wq:=qD gq;obtain⟨v,gv,hF⟩:=bS hF;have wv:ans A 183 [iI q,eP a0.C,eQ a0,V.iptr [iI a1]]=some (iI v):=s183 q a0.C a0 a1 gv;have wr:=qD hF;simp only[simprocAttr,R0,b161, *];exact qh (by simp only[simprocAttr,R0,qg,p161,Rs.ev, *])
def F162_2_B(a0:qc)(aD:aJ)(dH:Int)(f1:Int→Int→Option Int)(tS:Int)(bP:L1):Option ((L1)⊕(L1)):=
 (f1 dH tS).bind fun bC=>
(app 8 bP [bC]).bind fun dg=>
some (.inl dg)
def F162_2_D(a0:qc)(aD:aJ)(dH:Int)(f1:Int→Int→Option Int)(tS:Int)(bP:L1):Option (L1):=
 some bP
def F162_1_B(a0:qc)(f1:Int→Int→Option Int)(dH:Int)(aD:aJ):Option ((aJ)⊕(aJ)):=
 (forR 0 6 (F162_2_B a0 aD dH f1) (F162_2_D a0 aD dH f1) ([]:L1)).bind fun bO=>
(app 24 aD [bO]).bind fun mM=>
some (.inl mM)
def F162_1_D(a0:qc)(f1:Int→Int→Option Int)(dH:Int)(aD:aJ):Option (aJ):=
 some aD
def F162(a0:qc)(f1:Int→Int→Option Int):Option aJ:=
 (forR 0 (a0.L.length:Int) (F162_1_B a0 f1) (F162_1_D a0 f1) ([]:aJ)).bind fun aF=>
 some aF
theorem d162(a0:qc)(f1:Int→Int→Option Int){fB:V}(hf1:Clo2 A fB f1){r:aJ}(hF:F162 a0 f1=some r):∃v h',res A 162 [(eF a0),fB] Heap.empty=some (v,h')∧∃K,Deep.rep h' v r K:=by
 refine xp (f:=p162) rfl rfl rfl fun e hl he=>?_;have aA:=he 0 _ rfl;have aB:=he 1 _ rfl;obtain⟨g_f1,fs_f1,cs_f1,hv_f1,hc_f1⟩:=id hf1;have hl_0:e.length=34:=hl;clear he hl;show W A b162 e ⟨[],0⟩ _;unfold F162 at hF;obtain⟨t,gt,hF⟩:=bS hF;have hE:=wA hF; subst hE;have ws:ans A 89 [iL a0.L]=some (iI (a0.L.length:Int)):=s89 a0.L rfl;simp only[simprocAttr, -Int.reduceNatCast',R0,b162, *];show W A (.block 0 (.loop true b162_1)) _ _ _;rw[qp];refine qF gt _ rfl (fun i s e h=>∃v,∃K:Ks,Deep.rep h v s K∧e.length=34∧e.at 1=fB∧e.at 5=v∧e.at 12=iI (a0.L.length:Int)∧e.at 13=iI i) ?_ ?_ ?_
 ·refine⟨V.sl 1 1 0 0 1,fun k=> k=1∨False,rep_at (α:=L1) (l:=[]) (K:=fun _=> False) (h:=⟨[(0,none),(1,some [])],2⟩) rfl (fun _ x=> x) (fun x=> x),?_⟩
  simp only[simprocAttr, -Int.reduceNatCast',R0, *]
 ·clear hl_0 aA aB
  rintro i s e ⟨E,c⟩ ⟨v,K,g1,hl_1,aR,aL,bN,bW⟩ hlt hw s' ho;unfold F162_1_B at ho;obtain⟨row,grow,ho⟩:=bS ho;obtain⟨mM,mV,ho⟩:=bS ho;have hE:=wA ho; subst hE;simp only[simprocAttr, -Int.reduceNatCast',R0,b162_1, *];show W A (.block 2 (.loop true b162_2)) _ _ _;rw[qp];refine qF grow _ rfl (fun j r e h=>∃w,∃K1:Ks,Deep.rep h v s K∧Deep.rep h w r K1∧(∀k,K k→¬K1 k)∧e.length=34∧e.at 1=fB∧e.at 5=v∧e.at 6=iI i∧e.at 7=w∧e.at 12=iI (a0.L.length:Int)∧e.at 13=iI i∧e.at 17=iI j) ?_ ?_ ?_
  ·refine⟨V.sl E.length c 0 0 1,fun k=> k=E.length,Deep.frame g1 fun k q=> gB (Deep.bd g1 q),zY (l:=[]) (qw _ _) (fun k=> vY),fun k q e=> by have:=Deep.bd g1 q; simp only at this; omega,?_⟩
   simp only[simprocAttr, -Int.reduceNatCast',R0, *]
  ·clear hl_1 aR aL bN bW
   rintro j r e ⟨E2,c2⟩ ⟨w,K1,rD,f2,f3,hl_1,aR,aL,aO,aZ,bN,bW,iB⟩ nG sK s2 lM;unfold F162_2_B at lM;obtain⟨bC,dU,lM⟩:=bS lM;have kV:∀h,mapO (frz h 16) (fs_f1++[iI i,iI j]++cs_f1)=some (fs_f1++[iI i,iI j]++cs_f1):=fun h=> hc_f1.zf i j h;have kU:List.all (fs_f1++[iI i,iI j]++cs_f1) (qv 16)=true:=hc_f1.zr i j;have g8:ans A g_f1 (fs_f1++[iI i,iI j]++cs_f1)=some (iI bC):=hc_f1.ka i j _ dU;obtain⟨dg,tK,lM⟩:=bS lM;have hE:=wA lM; subst hE;have pre:∀ (y:nO) k,k < E2.length→(E2++[y])[k]? =E2[k]?:=fun y k q=> gB q;obtain⟨w',E',c',K',p1,p2,p3,p4,p5⟩:=xl (E:=E2++[(c2,some [iI bC])]) (c:=c2+1) (Deep.frame f2 fun k q=> pre _ k (Deep.bd f2 q)) (show Deep.rep _ (iI bC) bC (fun _=> False) from ⟨rfl,fun _ x=> x⟩) (fun _ _ x=> x) tK;rw[le1]at p3 p4 p5;simp only[simprocAttr, -Int.reduceNatCast',R0,b162_2,qw,p1, *];refine ai rfl ⟨w',K',Deep.frame rD fun k q=>(p4 k (by have:=Deep.bd rD q; simp only at this; omega) (f3 k q)).trans (pre _ k (Deep.bd rD q)),p2,fun k q x=>?_,?_⟩
   ·rcases p3 k x with y|y|y
    ·exact f3 k q y
    ·exact y
    ·have:=Deep.bd rD q; simp only at this; omega
   ·simp only[simprocAttr, -Int.reduceNatCast',R0, *]
  ·clear hl_1 aR aL bN bW
   rintro j r e ⟨E2,c2⟩ ⟨w,K1,rD,f2,f3,hl_1,aR,aL,aO,aZ,bN,bW,iB⟩ dz t2 lM;unfold F162_2_D at lM;have hE:=wA lM; subst hE;obtain⟨v1,v2⟩:=rep_one f2;simp only[simprocAttr, -Int.reduceNatCast',R0,b162_2,v1,v2,qw, *];intro ht; subst ht;have pre:∀ (y:nO) k,k < E2.length→(E2++[y])[k]? =E2[k]?:=fun y k q=> gB q;obtain⟨v',E',c',K',p1,p2,p3,p4,p5⟩:=xl (E:=E2++[(c2,some [w])]) (c:=c2+1) (Deep.frame rD fun k q=> pre _ k (Deep.bd rD q)) (Deep.frame f2 fun k q=> pre _ k (Deep.bd f2 q)) f3 mV;simp only[simprocAttr, -Int.reduceNatCast',R0,p1, *];refine ai rfl ⟨v',K',p2,?_⟩;simp only[simprocAttr, -Int.reduceNatCast',R0, *]
 ·clear hl_0 aA aB
  rintro i s e ⟨E,c⟩ ⟨v,K,g1,hl_1,aR,aL,bN,bW⟩ hge t1 ho;unfold F162_1_D at ho;have hE:=wA ho; subst hE;simp only[simprocAttr, -Int.reduceNatCast',R0,b162_1, *];intro ht; subst ht;refine ai (fun _=> trivial) ⟨v,?_,K,g1⟩;simp only[simprocAttr, -Int.reduceNatCast',R0,qg,p162,Rs.ev, *]
theorem x162(a0:qc)(f1:Int→Int→Option Int){fB:V}(hf1:Clo2 A fB f1){r:aJ}(hF:F162 a0 f1=some r):tans A 162 [1,1] [(eF a0),fB]=some (enc r):=ju (α:=aJ) (by decide) (d162 a0 f1 hf1 hF)
def F185_1_B(a0:qc)(a2:Int)(x8:aJ)(lX:Int)(aD:aJ):Option ((aJ)⊕(aJ)):=
 (getI x8 lX).bind fun cW=>
(chk (a2+1)).bind fun iG=>
(F91 a0.C iG cW).bind fun dO=>
(app 24 aD [dO]).bind fun uQ=>
some (.inl uQ)
def F185_1_D(a0:qc)(a2:Int)(x8:aJ)(lX:Int)(aD:aJ):Option (aJ):=
 some aD
def F185(a0:qc)(a1:Int)(a2:Int)(a3:Int):Option aJ:=
 (chk (a1 - 1)).bind fun x1=>
 (chk (a3 - 1)).bind fun x2=>
 (F184 a0 x1 a2 x2).bind fun x3=>
 (chk (a2+1)).bind fun x5=>
 (chk (a3+a1)).bind fun x6=>
 (chk (x6 - 1)).bind fun x7=>
 (F184 a0 x1 x5 x7).bind fun x8=>
 (forR 0 (x8.length:Int) (F185_1_B a0 a2 x8) (F185_1_D a0 a2 x8) x3).bind fun aF=>
 (F133 a0.C.P aF).bind fun fA=>
 some fA
def I185_1(a0:qc)(a2:Int)(x8:aJ)(lX:Int)(aD:aJ)(e:Env)(h:Heap):Prop:=
 ∃tZ uS:Nat,h=⟨[(0,none),(tZ,some (aD.map enc))],uS⟩∧e.length=49∧e.at 2=iI a2∧e.at 4=eQ a0∧e.at 9=V.sl 1 tZ 0 aD.length 1∧e.at 28=iL x8∧e.at 29=iI (x8.length:Int)∧e.at 30=iI lX
def P185_1(a0:qc)(a2:Int)(x8:aJ)(aF:aJ)(x:Ex)(e:Env)(h:Heap):Prop:=
 x= .normal∧∃tZ uS:Nat,h=⟨[(0,none),(tZ,some (aF.map enc))],uS⟩∧e.length=49∧e.at 4=eQ a0∧e.at 9=V.sl 1 tZ 0 aF.length 1
theorem l185_1(a0:qc)(a2:Int)(x8:aJ){lo:Int}{s:aJ}{t:aJ}(hF:forR lo (x8.length:Int) (F185_1_B a0 a2 x8) (F185_1_D a0 a2 x8) s=some t){e:Env}{h:Heap}(hI:I185_1 a0 a2 x8 lo s e h):W A c185_1 e h (P185_1 a0 a2 x8 t):=by
 show W A (.block 0 (.loop false b185_1)) e h _;rw[qp];refine qF hF 2 (by obtain⟨_,_,rfl,_⟩:=hI; rfl) (I185_1 a0 a2 x8) hI ?_ ?_
 ·rintro lX aD e h ⟨tZ,uS,rfl,h_10⟩ hlt hw o ho
  unfold F185_1_B at ho;obtain⟨cW,dY,ho⟩:=bS ho;obtain⟨rK,rJ⟩:=qm dY;obtain⟨iG,iU,ho⟩:=bS ho;have d9:=qD iU;obtain⟨dO,fI,ho⟩:=bS ho;have pZ:=s91 a0.C iG cW fI;obtain⟨uQ,nN,ho⟩:=bS ho;have iz:=fun a b c d e=> qA (α:=L1) (n:=aD.length) (m:=1) (ds:=[iL dO]) nN (by first|rfl|simp) (by first|rfl|simp) rfl a b c d e;have bp:=qO nN;cases ho;simp only[simprocAttr,R0,b185_1, *];refine ai rfl (ei _ (ei _ (ai rfl ?_)));simp only[simprocAttr,R0, *]
 ·rintro lX aD e h ⟨tZ,uS,rfl,h_10⟩ hge t1 ho
  unfold F185_1_D at ho;cases ho;simp only[simprocAttr,R0,b185_1, *];intro ht; subst ht;refine ai rfl (ei _ (ei _ (ai rfl ?_)));simp only[simprocAttr,R0, *]
theorem s185(a0:qc)(a1:Int)(a2:Int)(a3:Int){r:aJ}(hF:F185 a0 a1 a2 a3=some r):ans A 185 [(eF a0),iI a1,iI a2,iI a3]=some (enc r):=by
 refine qB (f:=p185) rfl rfl rfl fun e hl he=>?_;have aA:=he 0 _ rfl;have aB:=he 1 _ rfl;have aU:=he 2 _ rfl;have cX:=he 3 _ rfl;have hl_0:e.length=49:=hl;clear he hl;show W A b185 e ⟨[],0⟩ _;unfold F185 at hF;obtain⟨x1,bD,hF⟩:=bS hF;have sQ:=qD bD;obtain⟨x2,iS,hF⟩:=bS hF;have d7:=qD iS;obtain⟨x3,dN,hF⟩:=bS hF;have w4:tans A 184 [1] [(eF a0),iI x1,iI a2,iI x2]=some (iL x3):=t184 a0 x1 a2 x2 dN;have w4t:=zm (α:=L1) x3;obtain⟨x5,dB,hF⟩:=bS hF;have mg:=qD dB;obtain⟨x6,nJ,hF⟩:=bS hF;have mf:=qD nJ;obtain⟨x7,dQ,hF⟩:=bS hF;have tO:=qD dQ;obtain⟨x8,oJ,hF⟩:=bS hF;have w9:=s184 a0 x1 x5 x7 oJ;obtain⟨aF,oY,hF⟩:=bS hF;simp only[simprocAttr,R0,b185, *];refine W.mono (l185_1 a0 a2 x8 oY (ei _ (ei _ (ai rfl ?_)))) ?_
 ·simp only[simprocAttr,R0, *]
 rintro _ e _ ⟨rfl,tZ,uS,rfl,h_13⟩;obtain⟨fA,iQ,hF⟩:=bS hF;have w23:=s133 a0.C.P aF iQ;cases hF;simp only[simprocAttr,R0,qR (α:=L1) aF, *];exact qh (by simp only[simprocAttr,R0,qg,p185,Rs.ev,qd,qR (α:=L1) aF, *])
def F169(a0:qc)(a1:Int)(a2:Int)(a3:Int):Option Int:=
 (F184 a0 a1 a2 a3).bind fun x1=>
 (F185 a0 a1 a2 a3).bind fun x5=>
 (chk ((x1.length:Int) - (x5.length:Int))).bind fun x9=>
 some x9
theorem s169(a0:qc)(a1:Int)(a2:Int)(a3:Int){r:Int}(hF:F169 a0 a1 a2 a3=some r):ans A 169 [(eF a0),iI a1,iI a2,iI a3]=some (enc r):=by
 refine qB (f:=p169) rfl rfl rfl fun e hl he=>?_;have aA:=he 0 _ rfl;have aB:=he 1 _ rfl;have aU:=he 2 _ rfl;have cX:=he 3 _ rfl;have hl_0:e.length=22:=hl;clear he hl;show W A b169 e ⟨[],0⟩ _;unfold F169 at hF;obtain⟨x1,bD,hF⟩:=bS hF;have w2:=s184 a0 a1 a2 a3 bD;have w4:=s89 x1 rfl;obtain⟨x5,dB,hF⟩:=bS hF;have w6:=s185 a0 a1 a2 a3 dB;have w8:=s89 x5 rfl;obtain⟨x9,fR,hF⟩:=bS hF;have s8:=qD fR;cases hF;simp only[simprocAttr,R0,b169, *];exact qh (by simp only[simprocAttr,R0,qg,p169,Rs.ev,qd, *])
def F163(a0:Int)(a1:Int)(d0:qc)(d1:Int):Option Int:=
 (F169 d0 d1 a0 a1).bind fun x1=>
 some x1
theorem s163(a0:Int)(a1:Int)(d0:qc)(d1:Int){r:Int}(hF:F163 a0 a1 d0 d1=some r):ans A 163 [iI a0,iI a1,eQ d0,V.iptr [iI d1]]=some (enc r):=by
 refine qB (f:=p163) rfl rfl rfl fun e hl he=>?_;have aA:=he 0 _ rfl;have aB:=he 1 _ rfl;have aU:=he 2 _ rfl;have cX:=he 3 _ rfl;have hl_0:e.length=12:=hl;clear he hl;show W A b163 e ⟨[],0⟩ _;unfold F163 at hF;obtain⟨x1,bD,hF⟩:=bS hF;have w2:=s169 d0 d1 a0 a1 bD;cases hF;simp only[simprocAttr,R0,b163, *];exact qh (by simp only[simprocAttr,R0,qg,p163,Rs.ev,qd, *])
def F164_1_B(a0:aJ)(a1:aJ)(f2:L1→L1→Option Bool)(lL:Int)(s:Unit):Option ((Unit)⊕((Unit)⊕Bool)):=
 (getI a0 lL).bind fun x5=>
(getI a1 lL).bind fun x7=>
(f2 x5 x7).bind fun x9=>
if x9=true then
 some (.inl ())
else
 some (.inr (.inr false))
def F164_1_D(a0:aJ)(a1:aJ)(f2:L1→L1→Option Bool)(lL:Int)(s:Unit):Option ((Unit)⊕Bool):=
 some (.inl ())
def F164(a0:aJ)(a1:aJ)(f2:L1→L1→Option Bool):Option Bool:=
 if(a0.length:Int)=(a1.length:Int)then
  (forR 0 (a0.length:Int) (F164_1_B a0 a1 f2) (F164_1_D a0 a1 f2) ()).bind fun rM=> match rM with
   | .inl _=>
    some true
   | .inr uN=> some uN
 else
  some false
def I164_1(a0:aJ)(a1:aJ)(f2:L1→L1→Option Bool)(rB:V)(lL:Int)(s:Unit)(e:Env)(h:Heap):Prop:=
 ∃k3:Nat,h=⟨[],k3⟩∧e.length=32∧e.at 1=iL a1∧e.at 2=rB∧e.at 15=iL a0∧e.at 16=iI (a0.length:Int)∧e.at 17=iI lL
def P164_1(a0:aJ)(a1:aJ)(f2:L1→L1→Option Bool)(rB:V)(t:(Unit)⊕Bool)(x:Ex)(e:Env)(h:Heap):Prop:=
 match t with
 | .inl _=> x= .normal∧∃k3:Nat,h=⟨[],k3⟩∧e.length=32
 | .inr r=> x= .ret∧Fin p164 (enc r) .ret e h
theorem l164_1(a0:aJ)(a1:aJ)(f2:L1→L1→Option Bool)(rB:V)(ec:Clo2 A rB f2){lo:Int}{s:Unit}{t:(Unit)⊕Bool}(hF:forR lo (a0.length:Int) (F164_1_B a0 a1 f2) (F164_1_D a0 a1 f2) s=some t){e:Env}{h:Heap}(hI:I164_1 a0 a1 f2 rB lo s e h):W A c164_1 e h (P164_1 a0 a1 f2 rB t):=by
 obtain⟨g_f2,fs_f2,cs_f2,hv_f2,hc_f2⟩:=id ec;show W A (.block 0 (.loop false b164_1)) e h _;rw[qp];refine qF hF 0 (by obtain⟨_,rfl,_⟩:=hI; rfl) (I164_1 a0 a1 f2 rB) hI ?_ ?_
 ·rintro lL _ e h ⟨k3,rfl,h_2⟩ hlt hw o ho
  unfold F164_1_B at ho;obtain⟨x5,dB,ho⟩:=bS ho;obtain⟨lH,lG⟩:=qm dB;obtain⟨x7,dQ,ho⟩:=bS ho;obtain⟨nV,mZ⟩:=qm dQ;obtain⟨x9,fR,ho⟩:=bS ho;have nZ:∀h,mapO (frz h 16) (fs_f2++[iL x5,iL x7]++cs_f2)=some (fs_f2++[iL x5,iL x7]++cs_f2):=fun h=> hc_f2.zf x5 x7 h;have nY:List.all (fs_f2++[iL x5,iL x7]++cs_f2) (qv 16)=true:=hc_f2.zr x5 x7;have g9:ans A g_f2 (fs_f2++[iL x5,iL x7]++cs_f2)=some (V.bool x9):=hc_f2.ka x5 x7 _ fR;cases x9 with
  |true=>
   rw[if_pos rfl]at ho;cases ho;simp only[simprocAttr,R0,b164_1, *];refine ai rfl (ei _ (ai rfl ?_));simp only[simprocAttr,R0, *]
  |false=>
   rw[if_neg wD]at ho;cases ho;simp only[simprocAttr,R0,b164_1, *];intro ht; subst ht;simp only[simprocAttr,RR,RB];exact ai rfl (qh (by simp only[simprocAttr,R0,qg,p164,Rs.ev,qd, *]))
 ·rintro lL _ e h ⟨k3,rfl,h_2⟩ hge t1 ho
  unfold F164_1_D at ho;cases ho;simp only[simprocAttr,R0,b164_1, *];intro ht; subst ht;refine ai rfl (ei _ (ai rfl ?_));simp only[simprocAttr,R0, *]
theorem s164(a0:aJ)(a1:aJ)(f2:L1→L1→Option Bool){rB:V}(ec:Clo2 A rB f2){r:Bool}(hF:F164 a0 a1 f2=some r):ans A 164 [iL a0,iL a1,rB]=some (enc r):=by
 refine qB (f:=p164) rfl rfl rfl fun e hl he=>?_;have aA:=he 0 _ rfl;have aB:=he 1 _ rfl;have aU:=he 2 _ rfl;obtain⟨g_f2,fs_f2,cs_f2,hv_f2,hc_f2⟩:=id ec;have hl_0:e.length=32:=hl;clear he hl;have h_0:=ai hl_0 (ai aA (ai aB aU));show W A b164 e ⟨[],0⟩ _;unfold F164 at hF;by_cases c1:(a0.length:Int)=(a1.length:Int)
 ·rw[if_pos c1]at hF
  obtain⟨rM,lT,hF⟩:=bS hF;rcases rM with _|uN
  ·dsimp only at hF
   simp only[simprocAttr,R0,b164, *];refine W.mono (l164_1 a0 a1 f2 rB ec lT (ei _ (ai rfl ?_))) ?_
   ·simp only[simprocAttr,R0, *]
   rintro _ e _ ⟨rfl,k3,rfl,hl_4⟩;cases hF;simp only[simprocAttr,R0, *];exact qh (by simp only[simprocAttr,R0,qg,p164,Rs.ev,qd, *])
  ·dsimp only at hF
   cases hF;simp only[simprocAttr,R0,b164, *];refine W.mono (l164_1 a0 a1 f2 rB ec lT (ei _ (ai rfl ?_))) ?_
   ·simp only[simprocAttr,R0, *]
   rintro _ e h ⟨rfl,hq⟩;simp only[simprocAttr,RR,RB];exact hq
 ·rw[if_neg c1]at hF
  cases hF;simp only[simprocAttr,R0,b164, *];exact qh (by simp only[simprocAttr,R0,qg,p164,Rs.ev,qd, *])
def F165_1_B(a0:L1)(a1:L1)(dH:Int)(s:Unit):Option ((Unit)⊕((Unit)⊕Bool)):=
 (getI a0 dH).bind fun x5=>
(getI a1 dH).bind fun x7=>
if x5=x7 then
 some (.inl ())
else
 some (.inr (.inr false))
def F165_1_D(a0:L1)(a1:L1)(dH:Int)(s:Unit):Option ((Unit)⊕Bool):=
 some (.inl ())
def F165(a0:L1)(a1:L1):Option Bool:=
 if(a0.length:Int)=(a1.length:Int)then
  (forR 0 (a0.length:Int) (F165_1_B a0 a1) (F165_1_D a0 a1) ()).bind fun rN=> match rN with
   | .inl _=>
    some true
   | .inr uO=> some uO
 else
  some false
def I165_1(a0:L1)(a1:L1)(dH:Int)(s:Unit)(e:Env)(h:Heap):Prop:=
 ∃k3:Nat,h=⟨[],k3⟩∧e.length=26∧e.at 0=iL a0∧e.at 1=iL a1∧e.at 12=iI (a0.length:Int)∧e.at 13=iI dH
def P165_1(a0:L1)(a1:L1)(t:(Unit)⊕Bool)(x:Ex)(e:Env)(h:Heap):Prop:=
 match t with
 | .inl _=> x= .normal∧∃k3:Nat,h=⟨[],k3⟩∧e.length=26
 | .inr r=> x= .ret∧Fin p165 (enc r) .ret e h
theorem l165_1(a0:L1)(a1:L1){lo:Int}{s:Unit}{t:(Unit)⊕Bool}(hF:forR lo (a0.length:Int) (F165_1_B a0 a1) (F165_1_D a0 a1) s=some t){e:Env}{h:Heap}(hI:I165_1 a0 a1 lo s e h):W A c165_1 e h (P165_1 a0 a1 t):=by
 show W A (.block 0 (.loop false b165_1)) e h _;rw[qp];refine qF hF 0 (by obtain⟨_,rfl,_⟩:=hI; rfl) (I165_1 a0 a1) hI ?_ ?_
 ·rintro dH _ e h ⟨k3,rfl,h_2⟩ hlt hw o ho
  unfold F165_1_B at ho;obtain⟨x5,dB,ho⟩:=bS ho;obtain⟨lH,lG⟩:=qm dB;obtain⟨x7,dQ,ho⟩:=bS ho;obtain⟨nV,mZ⟩:=qm dQ;by_cases c9:x5=x7
  ·rw[if_pos c9]at ho
   cases ho;simp only[simprocAttr,R0,b165_1, *];refine ai rfl (ei _ (ai rfl ?_));simp only[simprocAttr,R0, *]
  ·rw[if_neg c9]at ho
   cases ho;simp only[simprocAttr,R0,b165_1, *];intro ht; subst ht;simp only[simprocAttr,RR,RB];exact ai rfl (qh (by simp only[simprocAttr,R0,qg,p165,Rs.ev,qd, *]))
 ·rintro dH _ e h ⟨k3,rfl,h_2⟩ hge t1 ho
  unfold F165_1_D at ho;cases ho;simp only[simprocAttr,R0,b165_1, *];intro ht; subst ht;refine ai rfl (ei _ (ai rfl ?_));simp only[simprocAttr,R0, *]
theorem s165(a0:L1)(a1:L1){r:Bool}(hF:F165 a0 a1=some r):ans A 165 [iL a0,iL a1]=some (enc r):=by
 refine qB (f:=p165) rfl rfl rfl fun e hl he=>?_;have aA:=he 0 _ rfl;have aB:=he 1 _ rfl;have hl_0:e.length=26:=hl;clear he hl;have h_0:=ai hl_0 (ai aA aB);show W A b165 e ⟨[],0⟩ _;unfold F165 at hF;by_cases c1:(a0.length:Int)=(a1.length:Int)
 ·rw[if_pos c1]at hF
  obtain⟨rN,nM,hF⟩:=bS hF;rcases rN with _|uO
  ·dsimp only at hF
   simp only[simprocAttr,R0,b165, *];refine W.mono (l165_1 a0 a1 nM (ei _ (ai rfl ?_))) ?_
   ·simp only[simprocAttr,R0, *]
   rintro _ e _ ⟨rfl,k3,rfl,hl_4⟩;cases hF;simp only[simprocAttr,R0, *];exact qh (by simp only[simprocAttr,R0,qg,p165,Rs.ev,qd, *])
  ·dsimp only at hF
   cases hF;simp only[simprocAttr,R0,b165, *];refine W.mono (l165_1 a0 a1 nM (ei _ (ai rfl ?_))) ?_
   ·simp only[simprocAttr,R0, *]
   rintro _ e h ⟨rfl,hq⟩;simp only[simprocAttr,RR,RB];exact hq
 ·rw[if_neg c1]at hF
  cases hF;simp only[simprocAttr,R0,b165, *];exact qh (by simp only[simprocAttr,R0,qg,p165,Rs.ev,qd, *])
def F147_S(x:qc)(lim:aJ)(r:Int):Option (Int⊕Int):=(F162 x fun a b=> F163 a b x r).bind fun t=>(F164 t lim fun a b=> F165 a b).bind fun b=> if b=true then some (.inr r)else(chk (r+1)).bind fun r'=> some (.inl r')
noncomputable def F147(a0:qc):Option (T2 Int Int):=(F41 a0).bind fun b=> if b=true then(F162 a0 fun a b=> F161 a0 a b).bind fun lim=>(qY (F147_S a0 lim) 0).bind fun r=> some ⟨r,0⟩else some ⟨0,1⟩
set_option maxHeartbeats 8000000 in
theorem s147(a0:qc){r:T2 Int Int}(hF:F147 a0=some r):ans A 147 [(eF a0)]=some (EncR.enc r):=by
 refine qB (f:=p147) rfl rfl rfl fun e hl he=>?_;have aA:=he 0 _ rfl;have hl_0:e.length=22:=hl;clear he hl;show W A b147 e ⟨[],0⟩ _;unfold F147 at hF;obtain⟨b,gb,hF⟩:=bS hF;have wb:ans A 41 [(eF a0)]=some (V.bool b):=s41 a0 gb;by_cases c1:b=true
 ·subst c1
  rw[if_pos rfl]at hF;obtain⟨lim,glim,hF⟩:=bS hF;have wl:tans A 162 [1,1] [(eF a0),V.fn 161 [(eF a0)] []]=some (iL lim):=x162 a0 (fun x y=> F161 a0 x y)
   (Clo2.of (by intro h f; simp only[RZ,mapO]) (by intro h f; simp only[RZ,mapO]) (by intro f; simp only[RZ,RB]) (by intro f; simp only[RZ,RB]) (fun x y _ hr=> s161 a0 x y hr)) glim
  obtain⟨t,gt,hF⟩:=bS hF;have hE:=wA hF; subst hE;obtain⟨vl,⟨E1,k1⟩,K,t1,t2,t3,t4,t5⟩:=thawD (α:=aJ) (by decide) lim ⟨[(0,none)],1⟩;have t1':thaw 16 [1,1] (iL lim) ⟨[(0,none)],1⟩=some (vl,⟨E1,k1⟩):=t1;simp only[simprocAttr, -Int.reduceNatCast',R0,b147,hl_0,aA,wb,wl,qK,t1',qw,jJ];refine W.mono (Q:=fun x e h=> x= .normal∧e.length=22∧(∃u,h.ents[E1.length]? =some (u,some [iI t])∧e.at 5=V.ptr E1.length u 0)) ?_ ?_
  ·show W A (.block 0 (.loop true b147_1)) _ _ _
   rw[qp];refine zW gt _ rfl (fun s e h=> e.length=22∧e.at 1=eQ a0∧e.at 4=vl∧Deep.rep h vl lim K∧∃u,h.ents[E1.length]? =some (u,some [iI s])∧e.at 5=V.ptr E1.length u 0) ?_ ?_
   ·simp only[simprocAttr, -Int.reduceNatCast',R0,hl_0,aA]
    exact⟨Deep.frame t2 fun k q=> gB (t3 k q).2,_,qw _ _,rfl⟩
   ·clear hl_0 aA
    rintro s e ⟨E,c⟩ ⟨hl_1,aR,aQ,g1,u,g2,aL⟩ o ho;simp only at g2;unfold F147_S at ho;obtain⟨tb,gtb,ho⟩:=bS ho;have wt:tans A 162 [1,1] [(eF a0),V.fn 163 [] [eQ a0,V.iptr [iI s]]]=some (iL tb):=x162 a0 (fun x y=> F163 x y a0 s)
     (Clo2.of (by intro h f; simp only[RZ,mapO]) (by intro h f; simp only[RZ,mapO]) (by intro f; simp only[RZ,RB]) (by intro f; simp only[RZ,RB]) (fun x y _ hr=> s163 x y a0 s hr)) gtb
    obtain⟨bb,gbb,ho⟩:=bS ho;have we:ans A 164 [iL tb,iL lim,V.fn 165 [] []]=some (V.bool bb):=s164 tb lim (fun a b=> F165 a b)
     (Clo2.of (by intro h f; simp only[RZ,mapO]) (by intro h f; simp only[RZ,mapO]) (by intro f; simp only[RZ,RB]) (by intro f; simp only[RZ,RB]) (fun x y _ hr=> s165 x y hr)) gbb
    obtain⟨v2,⟨E2,k2⟩,K2,q1,q2,q3,q4,q5⟩:=thawD (α:=aJ) (by decide) tb ⟨E,c⟩;have q1':thaw 16 [1,1] (iL tb) ⟨E,c⟩=some (v2,⟨E2,k2⟩):=q1;have z1:frz ⟨E2,k2⟩ 16 v2=some (iL tb):=Deep.fz q2 10;have pL:Deep.rep ⟨E2,k2⟩ vl lim K:=Deep.frame g1 fun k q=> q5 k (Deep.bd g1 q);have z2:frz ⟨E2,k2⟩ 16 vl=some (iL lim):=Deep.fz pL 10;have hN:E1.length < E.length:=gA g2;have hN2:E1.length < E2.length:=Nat.lt_of_lt_of_le hN q4;have tN:E2[E1.length]? =some (u,some [iI s]):=(q5 _ hN).trans g2;have wbr:bare 16 [1,1] (iL tb)=true:=Deep.br (α:=aJ) tb 10 [];by_cases c2:bb=true
    ·subst c2
     rw[if_pos rfl]at ho;have hE:=wA ho; subst hE;simp only[simprocAttr, -Int.reduceNatCast',R0,b147_1,hl_1,aR,aQ,aL,g2,wt,wbr,qK,q1',z1,z2,we,tN];intro ht; subst ht;simp only[simprocAttr, -Int.reduceNatCast',R0,hl_1,aR,aQ,aL];exact⟨_,tN,rfl⟩
    ·have c3:bb=false:=by simpa using c2
     subst c3;rw[if_neg wD]at ho;obtain⟨n,gn,ho⟩:=bS ho;have wn:=qD gn;have hE:=wA ho; subst hE;simp only[simprocAttr, -Int.reduceNatCast',R0,b147_1,hl_1,aR,aQ,aL,g2,wt,wbr,qK,q1',z1,z2,we,tN,wn];refine ai rfl ⟨?_,?_,?_,Deep.frame pL fun k q=> qi (by have:=(t3 k q).2; simp only at this; omega),u,gS hN2,?_⟩
     all_goals simp only[simprocAttr, -Int.reduceNatCast',R0,hl_1,aR,aQ,aL]
  ·clear hl_0 aA
   rintro _ e ⟨E,c⟩ ⟨rfl,hl_0,u,g2,oG⟩;simp only at g2;simp only[simprocAttr, -Int.reduceNatCast',R0,hl_0,oG,g2];exact qh (by simp only[simprocAttr, -Int.reduceNatCast',R0,qg,p147,Rs.ev,hl_0,oG])
 ·have c3:b=false:=by simpa using c1
  subst c3;rw[if_neg wD]at hF;have hE:=wA hF; subst hE;simp only[simprocAttr, -Int.reduceNatCast',R0,b147,hl_0,aA,wb];exact qh (by simp only[simprocAttr, -Int.reduceNatCast',R0,qg,p147,Rs.ev,hl_0])
def F166(a0:qc)(a1:Int)(a2:Int)(a3:Int):Option Int:=
 (F41 a0).bind fun x1=>
 if x1=true then
  (F56 a1 0 8).bind fun x3=>
  if x3=true then
   (F86 a0.C).bind fun x5=>
   (F56 a2 0 x5).bind fun x7=>
   if x7=true then
    (F56 a3 0 5).bind fun x9=>
    if x9=true then
     some 0
    else
     some 2
   else
    some 2
  else
   some 2
 else
  some 1
theorem s166(a0:qc)(a1:Int)(a2:Int)(a3:Int){r:Int}(hF:F166 a0 a1 a2 a3=some r):ans A 166 [(eF a0),iI a1,iI a2,iI a3]=some (enc r):=by
 refine qB (f:=p166) rfl rfl rfl fun e hl he=>?_;have aA:=he 0 _ rfl;have aB:=he 1 _ rfl;have aU:=he 2 _ rfl;have cX:=he 3 _ rfl;have hl_0:e.length=30:=hl;clear he hl;have h_0:=ai hl_0 (ai aA (ai aB (ai aU cX)));show W A b166 e ⟨[],0⟩ _;unfold F166 at hF;obtain⟨x1,bD,hF⟩:=bS hF;have w2:=s41 a0 bD;cases x1 with
 |true=>
  rw[if_pos rfl]at hF;obtain⟨x3,dN,hF⟩:=bS hF;have w4:=s56 a1 0 8 dN;cases x3 with
  |true=>
   rw[if_pos rfl]at hF;obtain⟨x5,dB,hF⟩:=bS hF;have w6:=s86 a0.C dB;obtain⟨x7,dQ,hF⟩:=bS hF;have w8:=s56 a2 0 x5 dQ;cases x7 with
   |true=>
    rw[if_pos rfl]at hF;obtain⟨x9,fR,hF⟩:=bS hF;have rL:=s56 a3 0 5 fR;cases x9 with
    |true=>
     rw[if_pos rfl]at hF;cases hF;simp only[simprocAttr,R0,b166, *];exact qh (by simp only[simprocAttr,R0,qg,p166,Rs.ev,qd, *])
    |false=>
     rw[if_neg wD]at hF;cases hF;simp only[simprocAttr,R0,b166, *];exact qh (by simp only[simprocAttr,R0,qg,p166,Rs.ev,qd, *])
   |false=>
    rw[if_neg wD]at hF;cases hF;simp only[simprocAttr,R0,b166, *];exact qh (by simp only[simprocAttr,R0,qg,p166,Rs.ev,qd, *])
  |false=>
   rw[if_neg wD]at hF;cases hF;simp only[simprocAttr,R0,b166, *];exact qh (by simp only[simprocAttr,R0,qg,p166,Rs.ev,qd, *])
 |false=>
  rw[if_neg wD]at hF;cases hF;simp only[simprocAttr,R0,b166, *];exact qh (by simp only[simprocAttr,R0,qg,p166,Rs.ev,qd, *])
def F167(a0:Int)(a1:Int)(d0:qc)(d1:Int):Option Int:=
 (F169 d0 d1 a0 a1).bind fun x1=>
 some x1
theorem s167(a0:Int)(a1:Int)(d0:qc)(d1:Int){r:Int}(hF:F167 a0 a1 d0 d1=some r):ans A 167 [iI a0,iI a1,eQ d0,V.iptr [iI d1]]=some (enc r):=by
 refine qB (f:=p167) rfl rfl rfl fun e hl he=>?_;have aA:=he 0 _ rfl;have aB:=he 1 _ rfl;have aU:=he 2 _ rfl;have cX:=he 3 _ rfl;have hl_0:e.length=12:=hl;clear he hl;show W A b167 e ⟨[],0⟩ _;unfold F167 at hF;obtain⟨x1,bD,hF⟩:=bS hF;have w2:=s169 d0 d1 a0 a1 bD;cases hF;simp only[simprocAttr,R0,b167, *];exact qh (by simp only[simprocAttr,R0,qg,p167,Rs.ev,qd, *])
def F148(a0:qc)(a1:Int):Option (T2 aJ Int):=
 (F166 a0 a1 0 0).bind fun x1=>
 if x1=0 then
  (F162 a0 (fun x y=> F167 x y a0 a1)).bind fun x4=>
  some ⟨x4,0⟩
 else
  some ⟨([]:aJ),x1⟩
theorem d148(a0:qc)(a1:Int){r:T2 aJ Int}(hF:F148 a0 a1=some r):∃v h',res A 148 [(eF a0),iI a1] Heap.empty=some (v,h')∧∃vs K,v=V.tup vs∧repF h' vs [⟨r.a⟩,⟨r.b⟩] K:=by
 refine xp (f:=p148) rfl rfl rfl fun e hl he=>?_;have aA:=he 0 _ rfl;have aB:=he 1 _ rfl;have hl_0:e.length=16:=hl;clear he hl;show W A b148 e ⟨[],0⟩ _;unfold F148 at hF;obtain⟨x1,bD,hF⟩:=bS hF;have w2:=s166 a0 a1 0 0 bD;by_cases c3:x1=0
 ·rw[if_pos c3]at hF
  obtain⟨x4,fM,hF⟩:=bS hF;have w5:tans A 162 [1,1] [(eF a0),V.fn 167 [] [eQ a0,V.iptr [iI a1]]]=some (iL x4):=x162 a0 (fun x y=> F167 x y a0 a1)
   (Clo2.of (by intro h f; simp only[RZ,mapO]) (by intro h f; simp only[RZ,mapO]) (by intro f; simp only[RZ,RB]) (by intro f; simp only[RZ,RB]) (fun x y _ hr=> s167 x y a0 a1 hr)) fM
  cases hF;obtain⟨v,⟨E1,c1⟩,K,t1,t2,t3,t4,t5⟩:=thawD (α:=aJ) (by decide) x4 ⟨[(0,none),(0,none)],2⟩;have t1':thaw 16 [1,1] (iL x4) ⟨[(0,none),(0,none)],2⟩=some (v,⟨E1,c1⟩):=t1;simp only[simprocAttr,R0,b148,qK,t1', *];refine ai (fun _=> trivial) ⟨V.tup [v,iI 0],?_,_,_,rfl,ks t2 _⟩;simp only[simprocAttr,R0,qg,p148,Rs.ev, *]
 ·rw[if_neg c3]at hF
  cases hF;simp only[simprocAttr,R0,b148, *];refine ai (fun _=> trivial) ⟨V.tup [V.nils,iI x1],?_,_,_,rfl,ks (α:=aJ) (xf _) _⟩;simp only[simprocAttr,R0,qg,p148,Rs.ev, *]
theorem s148(a0:qc)(a1:Int){r:T2 aJ Int}(hF:F148 a0 a1=some r):ans A 148 [(eF a0),iI a1]=some (EncR.enc r):=by
 obtain⟨_,h',h1,vs,K,rfl,h2⟩:=d148 a0 a1 hF;exact ans_tup (ss:=[1,1]) (fits_pair rfl (by decide)) h1 h2
def F150_1_B(a0:L1)(kW:Int)(bY:Int):Option ((Int)⊕(Int)):=
 (getI a0 kW).bind fun x4=>
(chk (bY+x4)).bind fun x6=>
some (.inl x6)
def F150_1_D(a0:L1)(kW:Int)(bY:Int):Option (Int):=
 some bY
def F150(a0:L1):Option Int:=
 (forR 0 (a0.length:Int) (F150_1_B a0) (F150_1_D a0) 0).bind fun pD=>
 some pD
def I150_1(a0:L1)(kW:Int)(bY:Int)(e:Env)(h:Heap):Prop:=
 ∃k2:Nat,h=⟨[],k2⟩∧e.length=18∧e.at 0=iL a0∧e.at 3=iI bY∧e.at 4=iI kW
def P150_1(a0:L1)(pD:Int)(x:Ex)(e:Env)(h:Heap):Prop:=
 x= .normal∧∃k2:Nat,h=⟨[],k2⟩∧e.length=18∧e.at 3=iI pD
theorem l150_1(a0:L1){lo:Int}{s:Int}{t:Int}(hF:forR lo (a0.length:Int) (F150_1_B a0) (F150_1_D a0) s=some t){e:Env}{h:Heap}(hI:I150_1 a0 lo s e h):W A c150_1 e h (P150_1 a0 t):=by
 show W A (.block 0 (.loop false b150_1)) e h _;rw[qp];refine qF hF 0 (by obtain⟨_,rfl,_⟩:=hI; rfl) (I150_1 a0) hI ?_ ?_
 ·rintro kW bY e h ⟨k2,rfl,h_1⟩ hlt hw o ho
  unfold F150_1_B at ho;obtain⟨x4,fM,ho⟩:=bS ho;obtain⟨sS,sR⟩:=qm fM;obtain⟨x6,nJ,ho⟩:=bS ho;have mf:=qD nJ;cases ho;simp only[simprocAttr,R0,b150_1, *];refine ai rfl (ei _ (ai rfl ?_));simp only[simprocAttr,R0, *]
 ·rintro kW bY e h ⟨k2,rfl,h_1⟩ hge t1 ho
  unfold F150_1_D at ho;cases ho;simp only[simprocAttr,R0,b150_1, *];intro ht; subst ht;refine ai rfl (ei _ (ai rfl ?_));simp only[simprocAttr,R0, *]
theorem s150(a0:L1){r:Int}(hF:F150 a0=some r):ans A 150 [iL a0]=some (enc r):=by
 refine qB (f:=p150) rfl rfl rfl fun e hl he=>?_;have aA:=he 0 _ rfl;have hl_0:e.length=18:=hl;clear he hl;show W A b150 e ⟨[],0⟩ _;unfold F150 at hF;obtain⟨pD,o8,hF⟩:=bS hF;simp only[simprocAttr,R0,b150, *];refine W.mono (l150_1 a0 o8 (ei _ (ai rfl ?_))) ?_
 ·simp only[simprocAttr,R0, *]
 rintro _ e _ ⟨rfl,k2,rfl,h_3⟩;cases hF;simp only[simprocAttr,R0, *];exact qh (by simp only[simprocAttr,R0,qg,p150,Rs.ev,qd, *])
def F99(a0:qe)(a1:Int):Option Int:=
 (chk ((a0.D.length:Int) - 1)).bind fun x1=>
 (F54 a1 0 x1).bind fun x2=>
 if x2=true then
  (getI a0.D a1).bind fun x4=>
  some x4
 else
  some 0
theorem s99(a0:qe)(a1:Int){r:Int}(hF:F99 a0 a1=some r):ans A 99 [(eC a0),iI a1]=some (enc r):=by
 refine qB (f:=p99) rfl rfl rfl fun e hl he=>?_;have aA:=he 0 _ rfl;have aB:=he 1 _ rfl;have hl_0:e.length=17:=hl;clear he hl;have h_0:=ai hl_0 (ai aA aB);show W A b99 e ⟨[],0⟩ _;unfold F99 at hF;obtain⟨x1,bD,hF⟩:=bS hF;have sQ:=qD bD;obtain⟨x2,iS,hF⟩:=bS hF;have w3:=s54 a1 0 x1 iS;cases x2 with
 |true=>
  rw[if_pos rfl]at hF;obtain⟨x4,fM,hF⟩:=bS hF;obtain⟨sS,sR⟩:=qm fM;cases hF;simp only[simprocAttr,R0,b99, *];exact qh (by simp only[simprocAttr,R0,qg,p99,Rs.ev,qd, *])
 |false=>
  rw[if_neg wD]at hF;cases hF;simp only[simprocAttr,R0,b99, *];exact qh (by simp only[simprocAttr,R0,qg,p99,Rs.ev,qd, *])
def kG(a0:qe)(a1:Int)(s:aJ×Int):Option ((aJ×Int)⊕(aJ)):=
 match s with
 |(aD,cZ)=>
  (F99 a0 a1).bind fun bC=>
  if cZ < bC then
   (app 24 aD ([([]:L1)])).bind fun uR=>
   (chk (cZ+1)).bind fun iG=>
   some (.inl (uR,iG))
  else
   some (.inr aD)
def F76(a0:qe)(a1:Int):Option aJ:=
 (chk ((a0.D.length:Int) - 1)).bind fun x1=>
 (F54 a1 1 x1).bind fun x2=>
 if x2=true then
  (chk (a1 - 1)).bind fun x4=>
  (getI a0.M x4).bind fun x5=>
  some x5
 else
  (qY (kG a0 a1) ([],0)).bind fun aF=>
  some aF
def I76_1(a0:qe)(a1:Int)(s:aJ×Int)(e:Env)(h:Heap):Prop:=
 match s with
 |(aD,cZ)=>
  ∃u8 k9:Nat,h=⟨[(0,none),(u8,some (aD.map enc))],k9⟩∧e.length=32∧e.at 1=iI a1∧e.at 2=eP a0∧e.at 5=V.sl 1 u8 0 aD.length 1∧e.at 6=iI cZ
def P76_1(a0:qe)(a1:Int)(aF:aJ)(x:Ex)(e:Env)(h:Heap):Prop:=
 x= .normal∧∃u8 k9:Nat,h=⟨[(0,none),(u8,some (aF.map enc))],k9⟩∧e.length=32∧e.at 5=V.sl 1 u8 0 aF.length 1
theorem l76_1(a0:qe)(a1:Int){s:aJ×Int}{t:aJ}(hF:qY (kG a0 a1) s=some t){e:Env}{h:Heap}(hI:I76_1 a0 a1 s e h):W A c76_1 e h (P76_1 a0 a1 t):=by
 show W A (.block 0 (.loop false b76_1)) e h _;rw[qp];refine zW hF 2 (by rcases s with⟨_,_⟩; obtain⟨_,_,rfl,_⟩:=hI; rfl) (I76_1 a0 a1) hI ?_
 ·rintro⟨aD,cZ⟩ e h ⟨u8,k9,rfl,h_7⟩ o ho
  unfold kG at ho;dsimp only at ho;obtain⟨bC,dU,ho⟩:=bS ho;have pO:=s99 a0 a1 dU;by_cases sG:cZ < bC
  ·rw[if_pos sG]at ho
   obtain⟨uR,nP,ho⟩:=bS ho;have sV:=fun a b c d e=> qA (α:=L1) (n:=aD.length) (m:=1) (ds:=[V.isl []]) nP (by first|rfl|simp) (by first|rfl|simp) rfl a b c d e;have ce:=qO nP;obtain⟨iG,iU,ho⟩:=bS ho;have d9:=qD iU;cases ho;simp only[simprocAttr,R0,b76_1, *];refine ai rfl (ei _ (ei _ (ai rfl ?_)));simp only[simprocAttr,R0, *]
  ·rw[if_neg sG]at ho
   cases ho;simp only[simprocAttr,R0,b76_1, *];intro ht; subst ht;simp only[simprocAttr,RR,RB];refine ai rfl (ei _ (ei _ (ai rfl ?_)));simp only[simprocAttr,R0, *]
theorem s76(a0:qe)(a1:Int){r:aJ}(hF:F76 a0 a1=some r):ans A 76 [(eC a0),iI a1]=some (enc r):=by
 refine qB (f:=p76) rfl rfl rfl fun e hl he=>?_;have aA:=he 0 _ rfl;have aB:=he 1 _ rfl;have hl_0:e.length=32:=hl;clear he hl;show W A b76 e ⟨[],0⟩ _;unfold F76 at hF;obtain⟨x1,bD,hF⟩:=bS hF;have sQ:=qD bD;obtain⟨x2,iS,hF⟩:=bS hF;have w3:=s54 a1 1 x1 iS;cases x2 with
 |true=>
  rw[if_pos rfl]at hF;obtain⟨x4,fM,hF⟩:=bS hF;have wx4:=qD fM;obtain⟨x5,dB,hF⟩:=bS hF;obtain⟨lH,lG⟩:=qm dB;have hE:=wA hF; subst hE;simp only[simprocAttr, -Int.reduceNatCast',R0,b76, *];exact qh (by simp only[simprocAttr, -Int.reduceNatCast',R0,qg,p76,Rs.ev,qd, *])
 |false=>
  rw[if_neg wD]at hF;obtain⟨aF,uu,hF⟩:=bS hF;simp only[simprocAttr, -Int.reduceNatCast',R0,b76, *];refine W.mono (l76_1 a0 a1 uu (ei _ (ei _ (ai rfl ?_)))) ?_
  ·simp only[simprocAttr, -Int.reduceNatCast',R0, *]
  rintro _ e _ ⟨rfl,u8,k9,rfl,hl_10,h5_10⟩;have hE:=wA hF; subst hE;simp only[simprocAttr, -Int.reduceNatCast',R0, *];exact qh (by simp only[simprocAttr, -Int.reduceNatCast',R0,qg,p76,Rs.ev,qd,frzs (α:=L1) aF,qR (α:=L1) aF, *])
def F77(a0:qc)(a1:Int)(a2:Int):Option Int:=
 (getI a0.L a1).bind fun x1=>
 (getI x1 a2).bind fun x3=>
 some x3
theorem s77(a0:qc)(a1:Int)(a2:Int){r:Int}(hF:F77 a0 a1 a2=some r):ans A 77 [(eF a0),iI a1,iI a2]=some (enc r):=by
 refine qB (f:=p77) rfl rfl rfl fun e hl he=>?_;have aA:=he 0 _ rfl;have aB:=he 1 _ rfl;have aU:=he 2 _ rfl;have hl_0:e.length=15:=hl;clear he hl;show W A b77 e ⟨[],0⟩ _;unfold F77 at hF;obtain⟨x1,bD,hF⟩:=bS hF;obtain⟨tR,tQ⟩:=qm bD;obtain⟨x3,dN,hF⟩:=bS hF;obtain⟨aq,v5⟩:=qm dN;cases hF;simp only[simprocAttr,R0,b77, *];exact qh (by simp only[simprocAttr,R0,qg,p77,Rs.ev,qd, *])
def F38_2_S(a0:qc)(bY:Int)(dI:Int):Option ((Int)⊕((Unit)⊕Bool)):=
 (getI a0.L bY).bind fun fV=>
if dI < (fV.length:Int)then
 (getI fV dI).bind fun pM=>
 (F54 pM 0 5).bind fun fF=>
 if fF=true then
  (chk (dI+1)).bind fun fA=>
  some (.inl fA)
 else
  some (.inr (.inr false))
else
 some (.inr (.inl ()))
def F38_1_B(a0:qc)(bY:Int)(s:Unit):Option ((Unit)⊕((Unit)⊕Bool)):=
 (getI a0.L bY).bind fun x7=>
(getI a0.C.D bY).bind fun x9=>
if(x7.length:Int)=x9 then
 (qY (F38_2_S a0 bY) 0).bind fun pm=> match pm with
  | .inl _=>
   some (.inl ())
  | .inr r24=> some (.inr (.inr r24))
else
 some (.inr (.inr false))
def F38_1_D(a0:qc)(bY:Int)(s:Unit):Option ((Unit)⊕Bool):=
 some (.inl ())
def F38_5_S(a0:qc)(bQ:Int)(eB:aJ)(eY:Int)(lQ:Int):Option ((Int)⊕((Unit)⊕Bool)):=
 (getI eB eY).bind fun pX=>
if lQ < (pX.length:Int)then
 (getI pX lQ).bind fun rG=>
 if rG=0 then
  (chk (lQ+1)).bind fun x43=>
  some (.inl x43)
 else
  (chk (bQ - 1)).bind fun eA=>
  (F77 a0 eA lQ).bind fun r7=>
  (F77 a0 bQ eY).bind fun q9=>
  if q9 < r7 then
   some (.inr (.inr false))
  else
   (chk (lQ+1)).bind fun kS=>
   some (.inl kS)
else
 some (.inr (.inl ()))
def F38_4_B(a0:qc)(bQ:Int)(eB:aJ)(eY:Int)(s:Unit):Option ((Unit)⊕((Unit)⊕Bool)):=
 (qY (F38_5_S a0 bQ eB eY) 0).bind fun pg=> match pg with
 | .inl _=>
  some (.inl ())
 | .inr r52=> some (.inr (.inr r52))
def F38_4_D(a0:qc)(bQ:Int)(eB:aJ)(eY:Int)(s:Unit):Option ((Unit)⊕Bool):=
 some (.inl ())
def F38_3_B(a0:qc)(bQ:Int)(s:Unit):Option ((Unit)⊕((Unit)⊕Bool)):=
 (F76 a0.C bQ).bind fun eB=>
(forR 0 (eB.length:Int) (F38_4_B a0 bQ eB) (F38_4_D a0 bQ eB) ()).bind fun pf=> match pf with
 | .inl _=>
  some (.inl ())
 | .inr r54=> some (.inr (.inr r54))
def F38_3_D(a0:qc)(bQ:Int)(s:Unit):Option ((Unit)⊕Bool):=
 some (.inl ())
def F38(a0:qc):Option Bool:=
 (F39 a0.C).bind fun x1=>
 if x1=true then
  if(a0.L.length:Int)=(a0.C.D.length:Int)then
   (forR 0 (a0.L.length:Int) (F38_1_B a0) (F38_1_D a0) ()).bind fun i4=> match i4 with
    | .inl _=>
     (forR 1 (a0.L.length:Int) (F38_3_B a0) (F38_3_D a0) ()).bind fun pe=> match pe with
      | .inl _=>
       some true
      | .inr r56=> some r56
    | .inr r57=> some r57
  else
   some false
 else
  some false
def I38_2(a0:qc)(bY:Int)(dI:Int)(e:Env)(h:Heap):Prop:=
 ∃fW:Nat,h=⟨[(0,none)],fW⟩∧e.length=109∧e.at 1=eQ a0∧e.at 3=iI bY∧e.at 4=iI dI
def P38_2(a0:qc)(bY:Int)(t:(Unit)⊕Bool)(x:Ex)(e:Env)(h:Heap):Prop:=
 match t with
 | .inl _=> x= .normal∧∃fW:Nat,h=⟨[(0,none)],fW⟩∧e.length=109∧e.at 1=eQ a0∧e.at 3=iI bY
 | .inr r=> x= .ret∧Fin p38 (enc r) .ret e h
theorem l38_2(a0:qc)(bY:Int){s:Int}{t:(Unit)⊕Bool}(hF:qY (F38_2_S a0 bY) s=some t){e:Env}{h:Heap}(hI:I38_2 a0 bY s e h):W A c38_2 e h (P38_2 a0 bY t):=by
 show W A (.block 2 (.loop false b38_2)) e h _;rw[qp];refine zW hF 1 (by obtain⟨_,rfl,_⟩:=hI; rfl) (I38_2 a0 bY) hI ?_
 ·rintro dI e h ⟨fW,rfl,h_12⟩ o ho
  unfold F38_2_S at ho;obtain⟨fV,iN,ho⟩:=bS ho;obtain⟨nX,nA⟩:=qm iN;by_cases ik:dI < (fV.length:Int)
  ·rw[if_pos ik]at ho
   obtain⟨pM,oW,ho⟩:=bS ho;obtain⟨f7,f0⟩:=qm oW;obtain⟨fF,fS,ho⟩:=bS ho;have nv:=s54 pM 0 5 fS;cases fF with
   |true=>
    rw[if_pos rfl]at ho;obtain⟨fA,iQ,ho⟩:=bS ho;have mi:=qD iQ;cases ho;simp only[simprocAttr,R0,b38_2, *];refine ai rfl (ei _ (ai rfl ?_));simp only[simprocAttr,R0, *]
   |false=>
    rw[if_neg wD]at ho;cases ho;simp only[simprocAttr,R0,b38_2, *];intro ht; subst ht;simp only[simprocAttr,RR,RB];exact ai rfl (qh (by simp only[simprocAttr,R0,qg,p38,Rs.ev,qd, *]))
  ·rw[if_neg ik]at ho
   cases ho;simp only[simprocAttr,R0,b38_2, *];intro ht; subst ht;simp only[simprocAttr,RR,RB];refine ai rfl (ei _ (ai rfl ?_));simp only[simprocAttr,R0, *]
def I38_1(a0:qc)(bY:Int)(s:Unit)(e:Env)(h:Heap):Prop:=
 ∃k5:Nat,h=⟨[(0,none)],k5⟩∧e.length=109∧e.at 1=eQ a0∧e.at 3=iI bY
def P38_1(a0:qc)(t:(Unit)⊕Bool)(x:Ex)(e:Env)(h:Heap):Prop:=
 match t with
 | .inl _=> x= .normal∧∃k5:Nat,h=⟨[(0,none)],k5⟩∧e.length=109∧e.at 1=eQ a0
 | .inr r=> x= .ret∧Fin p38 (enc r) .ret e h
theorem l38_1(a0:qc){lo:Int}{s:Unit}{t:(Unit)⊕Bool}(hF:forR lo (a0.L.length:Int) (F38_1_B a0) (F38_1_D a0) s=some t){e:Env}{h:Heap}(hI:I38_1 a0 lo s e h):W A c38_1 e h (P38_1 a0 t):=by
 show W A (.block 0 (.loop false b38_1)) e h _;rw[qp];refine qF hF 1 (by obtain⟨_,rfl,_⟩:=hI; rfl) (I38_1 a0) hI ?_ ?_
 ·rintro bY _ e h ⟨k5,rfl,h_4⟩ hlt hw o ho
  unfold F38_1_B at ho;obtain⟨x7,dQ,ho⟩:=bS ho;obtain⟨nV,mZ⟩:=qm dQ;obtain⟨x9,fR,ho⟩:=bS ho;obtain⟨nZ,nY⟩:=qm fR;by_cases io:(x7.length:Int)=x9
  ·rw[if_pos io]at ho
   obtain⟨pm,tD,ho⟩:=bS ho;rcases pm with _|r24
   ·dsimp only at ho
    simp only[simprocAttr,R0,b38_1, *];refine W.mono (l38_2 a0 bY tD (ei _ (ai rfl ?_))) ?_
    ·simp only[simprocAttr,R0, *]
    rintro _ e _ ⟨rfl,fW,rfl,h_14⟩;cases ho;simp only[simprocAttr,R0, *];refine ai rfl (ei _ (ai rfl ?_));simp only[simprocAttr,R0, *]
   ·dsimp only at ho
    cases ho;simp only[simprocAttr,R0,b38_1, *];refine W.mono (l38_2 a0 bY tD (ei _ (ai rfl ?_))) ?_
    ·simp only[simprocAttr,R0, *]
    rintro _ e h ⟨rfl,hq⟩;simp only[simprocAttr,RR,RB];intro ht; subst ht;simp only[simprocAttr,RR,RB];exact ai rfl hq
  ·rw[if_neg io]at ho
   cases ho;simp only[simprocAttr,R0,b38_1, *];intro ht; subst ht;simp only[simprocAttr,RR,RB];exact ai rfl (qh (by simp only[simprocAttr,R0,qg,p38,Rs.ev,qd, *]))
 ·rintro bY _ e h ⟨k5,rfl,h_4⟩ hge t1 ho
  unfold F38_1_D at ho;cases ho;simp only[simprocAttr,R0,b38_1, *];intro ht; subst ht;refine ai rfl (ei _ (ai rfl ?_));simp only[simprocAttr,R0, *]
def I38_5(a0:qc)(bQ:Int)(eB:aJ)(eY:Int)(lQ:Int)(e:Env)(h:Heap):Prop:=
 ∃di:Nat,h=⟨[(0,none)],di⟩∧e.length=109∧e.at 1=eQ a0∧e.at 5=iI bQ∧e.at 6=iL eB∧e.at 7=iI eY∧e.at 8=iI lQ
def P38_5(a0:qc)(bQ:Int)(eB:aJ)(eY:Int)(t:(Unit)⊕Bool)(x:Ex)(e:Env)(h:Heap):Prop:=
 match t with
 | .inl _=> x= .normal∧∃di:Nat,h=⟨[(0,none)],di⟩∧e.length=109∧e.at 1=eQ a0∧e.at 5=iI bQ∧e.at 6=iL eB∧e.at 7=iI eY
 | .inr r=> x= .ret∧Fin p38 (enc r) .ret e h
theorem l38_5(a0:qc)(bQ:Int)(eB:aJ)(eY:Int){s:Int}{t:(Unit)⊕Bool}(hF:qY (F38_5_S a0 bQ eB eY) s=some t){e:Env}{h:Heap}(hI:I38_5 a0 bQ eB eY s e h):W A c38_5 e h (P38_5 a0 bQ eB eY t):=by
 show W A (.block 8 (.loop false b38_5)) e h _;rw[qp];refine zW hF 1 (by obtain⟨_,rfl,_⟩:=hI; rfl) (I38_5 a0 bQ eB eY) hI ?_
 ·rintro lQ e h ⟨di,rfl,h_34⟩ o ho
  unfold F38_5_S at ho;obtain⟨pX,o6,ho⟩:=bS ho;obtain⟨w38a,w38b⟩:=qm o6;by_cases c39:lQ < (pX.length:Int)
  ·rw[if_pos c39]at ho
   obtain⟨rG,rX,ho⟩:=bS ho;obtain⟨w41a,w41b⟩:=qm rX;by_cases c42:rG=0
   ·rw[if_pos c42]at ho
    obtain⟨x43,ts,ho⟩:=bS ho;have wx43:=qD ts;cases ho;simp only[simprocAttr,R0,b38_5, *];refine ai rfl (ei _ (ai rfl ?_));simp only[simprocAttr,R0, *]
   ·rw[if_neg c42]at ho
    obtain⟨eA,mR,ho⟩:=bS ho;have wx44:=qD mR;obtain⟨r7,o0,ho⟩:=bS ho;have w46:=s77 a0 eA lQ o0;obtain⟨q9,n8,ho⟩:=bS ho;have w48:=s77 a0 bQ eY n8;by_cases c49:q9 < r7
    ·rw[if_pos c49]at ho
     cases ho;simp only[simprocAttr,R0,b38_5, *];intro ht; subst ht;simp only[simprocAttr,RR,RB];exact ai rfl (qh (by simp only[simprocAttr,R0,qg,p38,Rs.ev,qd, *]))
    ·rw[if_neg c49]at ho
     obtain⟨kS,rW,ho⟩:=bS ho;have wx50:=qD rW;cases ho;simp only[simprocAttr,R0,b38_5, *];refine ai rfl (ei _ (ai rfl ?_));simp only[simprocAttr,R0, *]
  ·rw[if_neg c39]at ho
   cases ho;simp only[simprocAttr,R0,b38_5, *];intro ht; subst ht;simp only[simprocAttr,RR,RB];refine ai rfl (ei _ (ai rfl ?_));simp only[simprocAttr,R0, *]
def I38_4(a0:qc)(bQ:Int)(eB:aJ)(eY:Int)(s:Unit)(e:Env)(h:Heap):Prop:=
 ∃z5:Nat,h=⟨[(0,none)],z5⟩∧e.length=109∧e.at 1=eQ a0∧e.at 5=iI bQ∧e.at 6=iL eB∧e.at 7=iI eY
def P38_4(a0:qc)(bQ:Int)(eB:aJ)(t:(Unit)⊕Bool)(x:Ex)(e:Env)(h:Heap):Prop:=
 match t with
 | .inl _=> x= .normal∧∃z5:Nat,h=⟨[(0,none)],z5⟩∧e.length=109∧e.at 1=eQ a0∧e.at 5=iI bQ
 | .inr r=> x= .ret∧Fin p38 (enc r) .ret e h
theorem l38_4(a0:qc)(bQ:Int)(eB:aJ){lo:Int}{s:Unit}{t:(Unit)⊕Bool}(hF:forR lo (eB.length:Int) (F38_4_B a0 bQ eB) (F38_4_D a0 bQ eB) s=some t){e:Env}{h:Heap}(hI:I38_4 a0 bQ eB lo s e h):W A c38_4 e h (P38_4 a0 bQ eB t):=by
 show W A (.block 6 (.loop false b38_4)) e h _;rw[qp];refine qF hF 1 (by obtain⟨_,rfl,_⟩:=hI; rfl) (I38_4 a0 bQ eB) hI ?_ ?_
 ·rintro eY _ e h ⟨z5,rfl,h_31⟩ hlt hw o ho
  unfold F38_4_B at ho;obtain⟨pg,fj,ho⟩:=bS ho;rcases pg with _|r52
  ·dsimp only at ho
   simp only[simprocAttr,R0,b38_4, *];refine W.mono (l38_5 a0 bQ eB eY fj (ei _ (ai rfl ?_))) ?_
   ·simp only[simprocAttr,R0, *]
   rintro _ e _ ⟨rfl,di,rfl,h_36⟩;cases ho;simp only[simprocAttr,R0, *];refine ai rfl (ei _ (ai rfl ?_));simp only[simprocAttr,R0, *]
  ·dsimp only at ho
   cases ho;simp only[simprocAttr,R0,b38_4, *];refine W.mono (l38_5 a0 bQ eB eY fj (ei _ (ai rfl ?_))) ?_
   ·simp only[simprocAttr,R0, *]
   rintro _ e h ⟨rfl,hq⟩;simp only[simprocAttr,RR,RB];intro ht; subst ht;simp only[simprocAttr,RR,RB];exact ai rfl hq
 ·rintro eY _ e h ⟨z5,rfl,h_31⟩ hge t1 ho
  unfold F38_4_D at ho;cases ho;simp only[simprocAttr,R0,b38_4, *];intro ht; subst ht;refine ai rfl (ei _ (ai rfl ?_));simp only[simprocAttr,R0, *]
def I38_3(a0:qc)(bQ:Int)(s:Unit)(e:Env)(h:Heap):Prop:=
 ∃mO:Nat,h=⟨[(0,none)],mO⟩∧e.length=109∧e.at 1=eQ a0∧e.at 5=iI bQ
def P38_3(a0:qc)(t:(Unit)⊕Bool)(x:Ex)(e:Env)(h:Heap):Prop:=
 match t with
 | .inl _=> x= .normal∧∃mO:Nat,h=⟨[(0,none)],mO⟩∧e.length=109
 | .inr r=> x= .ret∧Fin p38 (enc r) .ret e h
theorem l38_3(a0:qc){lo:Int}{s:Unit}{t:(Unit)⊕Bool}(hF:forR lo (a0.L.length:Int) (F38_3_B a0) (F38_3_D a0) s=some t){e:Env}{h:Heap}(hI:I38_3 a0 lo s e h):W A c38_3 e h (P38_3 a0 t):=by
 show W A (.block 4 (.loop false b38_3)) e h _;rw[qp];refine qF hF 1 (by obtain⟨_,rfl,_⟩:=hI; rfl) (I38_3 a0) hI ?_ ?_
 ·rintro bQ _ e h ⟨mO,rfl,h_26⟩ hlt hw o ho
  unfold F38_3_B at ho;obtain⟨eB,lS,ho⟩:=bS ho;have w30:=s76 a0.C bQ lS;obtain⟨pf,fi,ho⟩:=bS ho;rcases pf with _|r54
  ·dsimp only at ho
   simp only[simprocAttr,R0,b38_3, *];refine W.mono (l38_4 a0 bQ eB fi (ei _ (ai rfl ?_))) ?_
   ·simp only[simprocAttr,R0, *]
   rintro _ e _ ⟨rfl,z5,rfl,h_33⟩;cases ho;simp only[simprocAttr,R0, *];refine ai rfl (ei _ (ai rfl ?_));simp only[simprocAttr,R0, *]
  ·dsimp only at ho
   cases ho;simp only[simprocAttr,R0,b38_3, *];refine W.mono (l38_4 a0 bQ eB fi (ei _ (ai rfl ?_))) ?_
   ·simp only[simprocAttr,R0, *]
   rintro _ e h ⟨rfl,hq⟩;simp only[simprocAttr,RR,RB];intro ht; subst ht;simp only[simprocAttr,RR,RB];exact ai rfl hq
 ·rintro bQ _ e h ⟨mO,rfl,h_26⟩ hge t1 ho
  unfold F38_3_D at ho;cases ho;simp only[simprocAttr,R0,b38_3, *];intro ht; subst ht;refine ai rfl (ei _ (ai rfl ?_));simp only[simprocAttr,R0, *]
theorem s38(a0:qc){r:Bool}(hF:F38 a0=some r):ans A 38 [(eF a0)]=some (enc r):=by
 refine qB (f:=p38) rfl rfl rfl fun e hl he=>?_;have aA:=he 0 _ rfl;have hl_0:e.length=109:=hl;clear he hl;have h_0:=ai hl_0 aA;show W A b38 e ⟨[],0⟩ _;unfold F38 at hF;obtain⟨x1,bD,hF⟩:=bS hF;have w2:=s39 a0.C bD;cases x1 with
 |true=>
  rw[if_pos rfl]at hF;by_cases c3:(a0.L.length:Int)=(a0.C.D.length:Int)
  ·rw[if_pos c3]at hF
   obtain⟨i4,pS,hF⟩:=bS hF;rcases i4 with _|r57
   ·dsimp only at hF
    simp only[simprocAttr,R0,b38, *];refine W.mono (l38_1 a0 pS (ei _ (ai rfl ?_))) ?_
    ·simp only[simprocAttr,R0, *]
    rintro _ e _ ⟨rfl,k5,rfl,h_6⟩;obtain⟨pe,tB,hF⟩:=bS hF;rcases pe with _|r56
    ·dsimp only at hF
     simp only[simprocAttr,R0, *];refine W.mono (l38_3 a0 tB (ei _ (ai rfl ?_))) ?_
     ·simp only[simprocAttr,R0, *]
     rintro _ e _ ⟨rfl,mO,rfl,hl_28⟩;cases hF;simp only[simprocAttr,R0, *];exact qh (by simp only[simprocAttr,R0,qg,p38,Rs.ev,qd, *])
    ·dsimp only at hF
     cases hF;simp only[simprocAttr,R0, *];refine W.mono (l38_3 a0 tB (ei _ (ai rfl ?_))) ?_
     ·simp only[simprocAttr,R0, *]
     rintro _ e h ⟨rfl,hq⟩;simp only[simprocAttr,RR,RB];exact hq
   ·dsimp only at hF
    cases hF;simp only[simprocAttr,R0,b38, *];refine W.mono (l38_1 a0 pS (ei _ (ai rfl ?_))) ?_
    ·simp only[simprocAttr,R0, *]
    rintro _ e h ⟨rfl,hq⟩;simp only[simprocAttr,RR,RB];exact hq
  ·rw[if_neg c3]at hF
   cases hF;simp only[simprocAttr,R0,b38, *];exact qh (by simp only[simprocAttr,R0,qg,p38,Rs.ev,qd, *])
 |false=>
  rw[if_neg wD]at hF;cases hF;simp only[simprocAttr,R0,b38, *];exact qh (by simp only[simprocAttr,R0,qg,p38,Rs.ev,qd, *])
def F127(a0:Int)(a1:Int):Option Int:=
 (remI a1 a0).bind fun x1=>
 (chk (x1+a0)).bind fun x3=>
 (remI x3 a0).bind fun x4=>
 some x4
theorem s127(a0:Int)(a1:Int){r:Int}(hF:F127 a0 a1=some r):ans A 127 [iI a0,iI a1]=some (enc r):=by
 refine qB (f:=p127) rfl rfl rfl fun e hl he=>?_;have aA:=he 0 _ rfl;have aB:=he 1 _ rfl;have hl_0:e.length=12:=hl;clear he hl;show W A b127 e ⟨[],0⟩ _;unfold F127 at hF;obtain⟨x1,bD,hF⟩:=bS hF;obtain⟨tR,tQ⟩:=rem_w bD;obtain⟨x3,dN,hF⟩:=bS hF;have mh:=qD dN;obtain⟨x4,fM,hF⟩:=bS hF;obtain⟨sS,sR⟩:=rem_w fM;cases hF;simp only[simprocAttr,R0,b127, *];exact qh (by simp only[simprocAttr,R0,qg,p127,Rs.ev,qd, *])
def F136_1_B(a0:Int)(a1:L1)(a2:L1)(a3:Int)(cE:Int)(aN:L1):Option ((L1)⊕(L1)):=
 (getI a1 cE).bind fun x5=>
(getI a2 cE).bind fun x7=>
(chk (a3*x7)).bind fun x9=>
(chk (x5 - x9)).bind fun eD=>
(F127 a0 eD).bind fun bC=>
(app 8 aN [bC]).bind fun dg=>
some (.inl dg)
def F136_1_D(a0:Int)(a1:L1)(a2:L1)(a3:Int)(cE:Int)(aN:L1):Option (L1):=
 some aN
def F136(a0:Int)(a1:L1)(a2:L1)(a3:Int):Option L1:=
 (forR 0 (a1.length:Int) (F136_1_B a0 a1 a2 a3) (F136_1_D a0 a1 a2 a3) ([]:L1)).bind fun aM=>
 some aM
def I136_1(a0:Int)(a1:L1)(a2:L1)(a3:Int)(cE:Int)(aN:L1)(e:Env)(h:Heap):Prop:=
 ∃u2 k3:Nat,h=⟨[(u2,some (aN.map enc))],k3⟩∧e.length=35∧e.at 0=iI a0∧e.at 1=iL a1∧e.at 2=iL a2∧e.at 3=iI a3∧e.at 9=V.sl 0 u2 0 aN.length 1∧e.at 10=iI cE
def P136_1(a0:Int)(a1:L1)(a2:L1)(a3:Int)(aM:L1)(x:Ex)(e:Env)(h:Heap):Prop:=
 x= .normal∧∃u2 k3:Nat,h=⟨[(u2,some (aM.map enc))],k3⟩∧e.length=35∧e.at 9=V.sl 0 u2 0 aM.length 1
theorem l136_1(a0:Int)(a1:L1)(a2:L1)(a3:Int){lo:Int}{s:L1}{t:L1}(hF:forR lo (a1.length:Int) (F136_1_B a0 a1 a2 a3) (F136_1_D a0 a1 a2 a3) s=some t){e:Env}{h:Heap}(hI:I136_1 a0 a1 a2 a3 lo s e h):W A c136_1 e h (P136_1 a0 a1 a2 a3 t):=by
 show W A (.block 0 (.loop false b136_1)) e h _;rw[qp];refine qF hF 1 (by obtain⟨_,_,rfl,_⟩:=hI; rfl) (I136_1 a0 a1 a2 a3) hI ?_ ?_
 ·rintro cE aN e h ⟨u2,k3,rfl,h_1⟩ hlt hw o ho
  unfold F136_1_B at ho;obtain⟨x5,dB,ho⟩:=bS ho;obtain⟨lH,lG⟩:=qm dB;obtain⟨x7,dQ,ho⟩:=bS ho;obtain⟨nV,mZ⟩:=qm dQ;obtain⟨x9,fR,ho⟩:=bS ho;have s8:=qD fR;obtain⟨eD,eT,ho⟩:=bS ho;have sP:=qD eT;obtain⟨bC,dU,ho⟩:=bS ho;have pO:=s127 a0 eD dU;obtain⟨dg,tK,ho⟩:=bS ho;have lc:=fun a b c d e=> qA (α:=Int) (n:=aN.length) (m:=1) (ds:=[iI bC]) tK (by first|rfl|simp) (by first|rfl|simp) rfl a b c d e;have w13l:=qO tK;cases ho;simp only[simprocAttr,R0,b136_1, *];refine ai rfl (ei _ (ei _ (ai rfl ?_)));simp only[simprocAttr,R0, *]
 ·rintro cE aN e h ⟨u2,k3,rfl,h_1⟩ hge t1 ho
  unfold F136_1_D at ho;cases ho;simp only[simprocAttr,R0,b136_1, *];intro ht; subst ht;refine ai rfl (ei _ (ei _ (ai rfl ?_)));simp only[simprocAttr,R0, *]
theorem t136(a0:Int)(a1:L1)(a2:L1)(a3:Int){r:L1}(hF:F136 a0 a1 a2 a3=some r):tans A 136 [1] [iI a0,iL a1,iL a2,iI a3]=some (enc r):=by
 refine tans_of (f:=p136) rfl rfl rfl fun e hl he=>?_;have aA:=he 0 _ rfl;have aB:=he 1 _ rfl;have aU:=he 2 _ rfl;have cX:=he 3 _ rfl;have hl_0:e.length=35:=hl;clear he hl;show W A b136 e ⟨[],0⟩ _;unfold F136 at hF;obtain⟨aM,sC,hF⟩:=bS hF;simp only[simprocAttr, -Int.reduceNatCast',R0,b136, *];refine W.mono (l136_1 a0 a1 a2 a3 sC (ei _ (ei _ (ai rfl ?_)))) ?_
 ·simp only[simprocAttr, -Int.reduceNatCast',R0, *]
 rintro _ e _ ⟨rfl,u2,k3,rfl,hl_4,h9_4⟩;have hE:=wA hF; subst hE;simp only[simprocAttr, -Int.reduceNatCast',R0, *];exact tfin_ret (by simp only[simprocAttr, -Int.reduceNatCast',R0,qg,p136,Rs.ev,qd,frzs (α:=Int) aM,qR (α:=Int) aM, *])
def F134_1_B(a0:Int)(a1:aJ)(aS:Int)(aE:L1):Option ((L1)⊕(L1)):=
 (getI a1 aS).bind fun x6=>
(F81 x6).bind fun x8=>
(getI aE x8).bind fun eD=>
(F136 a0 aE x6 eD).bind fun kT=>
some (.inl kT)
def F134_1_D(a0:Int)(a1:aJ)(aS:Int)(aE:L1):Option (L1):=
 some aE
def F134(a0:Int)(a1:aJ)(a2:L1):Option L1:=
 (F94 a2).bind fun x1=>
 (forR 0 (a1.length:Int) (F134_1_B a0 a1) (F134_1_D a0 a1) x1).bind fun z8=>
 some z8
theorem d134(a0:Int)(a1:aJ)(a2:L1){r:L1}(hF:F134 a0 a1 a2=some r):∃v h',res A 134 [iI a0,iL a1,iL a2] Heap.empty=some (v,h')∧∃K,Deep.rep h' v r K:=by
 refine xp (f:=p134) rfl rfl rfl fun e hl he=>?_;have aA:=he 0 _ rfl;have aB:=he 1 _ rfl;have aU:=he 2 _ rfl;have hl_0:e.length=33:=hl;clear he hl;show W A b134 e ⟨[],0⟩ _;unfold F134 at hF;obtain⟨o,go,hF⟩:=bS hF;have wo:tans A 94 [1] [iL a2]=some (iL o):=t94 a2 go;obtain⟨t,gt,hF⟩:=bS hF;cases hF;simp only[simprocAttr,R1,b134,qK,zm, *];show W A (.block 0 (.loop true b134_1)) _ _ _;rw[qp];refine qF gt _ rfl (fun i q e h=>∃k u,h.ents[k]? =some (u,some (q.map enc))∧e.length=33∧e.at 0=iI a0∧e.at 1=iL a1∧e.at 7=V.sl k u 0 q.length 1∧e.at 8=iI i) ?_ ?_ ?_
 ·refine⟨0,0,rfl,?_⟩
  simp only[simprocAttr,R1, *]
 ·clear hl_0 aA aB aU
  rintro i q e ⟨E,c⟩ ⟨k,u,g1,h_1⟩ hlt hw s' ho;unfold F134_1_B at ho;simp only at g1;obtain⟨x6,nJ,ho⟩:=bS ho;obtain⟨x6a,x6b⟩:=qm nJ;obtain⟨x8,oJ,ho⟩:=bS ho;have w8:=s81 x6 oJ;obtain⟨eD,eT,ho⟩:=bS ho;obtain⟨mc,ma⟩:=qm eT;have lz:=zi eT;obtain⟨kT,kX,ho⟩:=bS ho;have pO:tans A 136 [1] [iI a0,iL q,iL x6,iI eD]=some (iL kT):=t136 a0 q x6 eD kX;cases ho;have wfz:frz ⟨E,c⟩ 16 (V.sl k u 0 q.length 1)=some (iL q):=frz_row g1;have wbr:=bare_one (α:=Int) kT;have o10:zk none (List.drop x8.toNat (q.map enc))=some (iI eD):=qC (by rw[gF,ma]; rfl);simp only[simprocAttr,R1,b134_1,x6a,x6b,mc,eq_true lz,o10,qK,zm, *];refine ai rfl ⟨_,_,qw _ _,?_⟩;simp only[simprocAttr,R1, *]
 ·clear hl_0 aA aB aU
  rintro i q e ⟨E,c⟩ ⟨k,u,g1,h_1⟩ hge t1 ho;unfold F134_1_D at ho;cases ho;simp only at g1;simp only[simprocAttr,R1,b134_1, *];intro ht; subst ht;refine ai (fun _=> trivial) ⟨_,?_,fun x=> x=k,zY (l:=q) g1 fun x=> vY⟩;simp only[simprocAttr,R1,qg,p134,Rs.ev, *]
theorem t134(a0:Int)(a1:aJ)(a2:L1){r:L1}(hF:F134 a0 a1 a2=some r):tans A 134 [1] [iI a0,iL a1,iL a2]=some (enc r):=ju (α:=L1) (by decide) (d134 a0 a1 a2 hF)
def F135_1_B(a0:Int)(a1:Int)(bX:Int)(s:Unit):Option ((Unit)⊕((Unit)⊕Int)):=
 (F127 a0 a1).bind fun x4=>
(chk (bX*x4)).bind fun x6=>
(remI x6 a0).bind fun x7=>
if x7=1 then
 some (.inr (.inr bX))
else
 some (.inl ())
def F135_1_D(a0:Int)(a1:Int)(bX:Int)(s:Unit):Option ((Unit)⊕Int):=
 some (.inl ())
def F135(a0:Int)(a1:Int):Option Int:=
 (forR 1 a0 (F135_1_B a0 a1) (F135_1_D a0 a1) ()).bind fun rN=> match rN with
  | .inl _=>
   some 0
  | .inr uO=> some uO
def I135_1(a0:Int)(a1:Int)(bX:Int)(s:Unit)(e:Env)(h:Heap):Prop:=
 ∃k2:Nat,h=⟨[],k2⟩∧e.length=20∧e.at 0=iI a0∧e.at 1=iI a1∧e.at 5=iI bX
def P135_1(a0:Int)(a1:Int)(t:(Unit)⊕Int)(x:Ex)(e:Env)(h:Heap):Prop:=
 match t with
 | .inl _=> x= .normal∧∃k2:Nat,h=⟨[],k2⟩∧e.length=20
 | .inr r=> x= .ret∧Fin p135 (enc r) .ret e h
theorem l135_1(a0:Int)(a1:Int){lo:Int}{s:Unit}{t:(Unit)⊕Int}(hF:forR lo a0 (F135_1_B a0 a1) (F135_1_D a0 a1) s=some t){e:Env}{h:Heap}(hI:I135_1 a0 a1 lo s e h):W A c135_1 e h (P135_1 a0 a1 t):=by
 show W A (.block 0 (.loop false b135_1)) e h _;rw[qp];refine qF hF 0 (by obtain⟨_,rfl,_⟩:=hI; rfl) (I135_1 a0 a1) hI ?_ ?_
 ·rintro bX _ e h ⟨k2,rfl,h_1⟩ hlt hw o ho
  unfold F135_1_B at ho;obtain⟨x4,fM,ho⟩:=bS ho;have w5:=s127 a0 a1 fM;obtain⟨x6,nJ,ho⟩:=bS ho;have mf:=qD nJ;obtain⟨x7,dQ,ho⟩:=bS ho;obtain⟨nV,mZ⟩:=rem_w dQ;by_cases c9:x7=1
  ·rw[if_pos c9]at ho
   cases ho;simp only[simprocAttr,R0,b135_1, *];intro ht; subst ht;simp only[simprocAttr,RR,RB];exact ai rfl (qh (by simp only[simprocAttr,R0,qg,p135,Rs.ev,qd, *]))
  ·rw[if_neg c9]at ho
   cases ho;simp only[simprocAttr,R0,b135_1, *];refine ai rfl (ei _ (ai rfl ?_));simp only[simprocAttr,R0, *]
 ·rintro bX _ e h ⟨k2,rfl,h_1⟩ hge t1 ho
  unfold F135_1_D at ho;cases ho;simp only[simprocAttr,R0,b135_1, *];intro ht; subst ht;refine ai rfl (ei _ (ai rfl ?_));simp only[simprocAttr,R0, *]
theorem s135(a0:Int)(a1:Int){r:Int}(hF:F135 a0 a1=some r):ans A 135 [iI a0,iI a1]=some (enc r):=by
 refine qB (f:=p135) rfl rfl rfl fun e hl he=>?_;have aA:=he 0 _ rfl;have aB:=he 1 _ rfl;have hl_0:e.length=20:=hl;clear he hl;have h_0:=ai hl_0 (ai aA aB);show W A b135 e ⟨[],0⟩ _;unfold F135 at hF;obtain⟨rN,nM,hF⟩:=bS hF;rcases rN with _|uO
 ·dsimp only at hF
  simp only[simprocAttr,R0,b135, *];refine W.mono (l135_1 a0 a1 nM (ei _ (ai rfl ?_))) ?_
  ·simp only[simprocAttr,R0, *]
  rintro _ e _ ⟨rfl,k2,rfl,hl_3⟩;cases hF;simp only[simprocAttr,R0, *];exact qh (by simp only[simprocAttr,R0,qg,p135,Rs.ev,qd, *])
 ·dsimp only at hF
  cases hF;simp only[simprocAttr,R0,b135, *];refine W.mono (l135_1 a0 a1 nM (ei _ (ai rfl ?_))) ?_
  ·simp only[simprocAttr,R0, *]
  rintro _ e h ⟨rfl,hq⟩;simp only[simprocAttr,RR,RB];exact hq
def F131_2_B(p b:Int)(k:Int)(row:L1):Option (L1⊕L1):=(getI row k).bind fun x=>(chk (x*b)).bind fun m=>(remI m p).bind fun z=>(setI row k z).bind fun r=> some (.inl r)
def F131_2_D(k:Int)(row:L1):Option L1:=some row
def F131_3_C(out:aJ)(at_:Int)(k:Int)(put:Bool):Option Bool:=if put=true then some false else(getI out k).bind fun o=>(F81 o).bind fun ld=> some (decide (at_ < ld))
def F131_3_B(p:Int)(out:aJ)(own:L1)(at_:Int)(k:Int)(s:aJ×Bool):Option ((aJ×Bool)⊕(aJ×Bool)):=
 (F131_3_C out at_ k s.2).bind fun c=>(if c=true then(app 24 s.1 [own]).bind fun n=> some (n,true)else some s).bind fun s2=>
 (getI out k).bind fun o=>(getI o at_).bind fun y=>(F136 p o own y).bind fun q=>(app 24 s2.1 [q]).bind fun n=> some (.inl (n,s2.2))
def F131_3_D(k:Int)(s:aJ×Bool):Option (aJ×Bool):=some s
def F131_1_B(p:Int)(rows:aJ)(i:Int)(out:aJ):Option (aJ⊕aJ):=
 (getI rows i).bind fun row=>(F134 p out row).bind fun own=>(F81 own).bind fun at_=> if at_ < 0 then some (.inl out)else
 (getI own at_).bind fun x=>(F135 p x).bind fun inv=>(forR 0 (own.length:Int) (F131_2_B p inv) F131_2_D own).bind fun own'=>
 (forR 0 (out.length:Int) (F131_3_B p out own' at_) F131_3_D ([],false)).bind fun s=> if s.2=true then some (.inl s.1)else(app 24 s.1 [own']).bind fun n=> some (.inl n)
def F131_1_D(i:Int)(out:aJ):Option aJ:=some out
def F131(p:Int)(rows:aJ):Option aJ:=forR 0 (rows.length:Int) (F131_1_B p rows) F131_1_D []
set_option maxHeartbeats 8000000 in
theorem d131(p:Int)(rows:aJ){r:aJ}(hF:F131 p rows=some r):∃v h',res A 131 [iI p,iL rows] Heap.empty=some (v,h')∧
  ∃k u vs,v=V.sl k u 0 r.length 1∧h'.ents[k]? =some (u,some vs)∧Rws h'.ents (fun _=> True) vs r:=by
 refine xp (f:=p131) rfl rfl rfl fun e hl he=>?_;have aA:=he 0 _ rfl;have aB:=he 1 _ rfl;have hl_0:e.length=102:=hl;clear he hl;show W A b131 e ⟨[],0⟩ _;unfold F131 at hF;simp only[simprocAttr, -Int.reduceNatCast',R1,b131,hl_0,aA,aB];show W A (.block 0 (.loop true b131_1)) _ _ _;rw[qp];refine qF hF _ rfl (fun i out e h=>∃ko uo vs,h.ents[ko]? =some (uo,some vs)∧Rws h.ents (fun _=> True) vs out∧e.length=102∧e.at 0=iI p∧e.at 1=iL rows∧e.at 5=V.sl ko uo 0 out.length 1∧e.at 6=iI i) ?_ ?_ ?_
 ·refine⟨0,0,[],rfl,.nil,?_⟩
  simp only[simprocAttr, -Int.reduceNatCast',R1,hl_0,aA,aB]
 ·clear hl_0 aA aB
  rintro i out e ⟨E,c⟩ ⟨ko,uo,vs,g1,g2,hl_1,aG,aR,aL,aO⟩ hlt hw s' ho;unfold F131_1_B at ho;simp only at g1 g2;have hko:ko < E.length:=gA g1;obtain⟨row,gr,ho⟩:=bS ho;obtain⟨ra,rb⟩:=qm gr;obtain⟨own,gown,ho⟩:=bS ho;have wown:tans A 134 [1] [iI p,iL out,iL row]=some (iL own):=t134 p out row gown;obtain⟨at_,gat,ho⟩:=bS ho;have wat:ans A 81 [iL own]=some (iI at_):=s81 own gat;have wfo:=g2.fz c g1;have wbr:=bare_one (α:=Int) own;have wfr:∀z:L1,∀c',frz ⟨E++[(c,some (z.map enc))],c'⟩ 16 (V.sl E.length c 0 z.length 1)=some (iL z):=fun z c'=> frz_row (qw _ _);have ah:=wfr own;by_cases hat:at_ < 0
  ·rw[if_pos hat]at ho
   have hE:=wA ho; subst hE;simp only[simprocAttr, -Int.reduceNatCast',R1,b131_1,hl_1,aG,aR,aL,aO,eq_true hlt,hw,ra,rb,wfo,wown,wbr,qK,zm,ah,wat,eq_true hat];refine ai rfl ⟨ko,uo,vs,(gB hko).trans g1,g2.frame fun k hk _=>⟨gB hk,trivial⟩,?_⟩;simp only[simprocAttr, -Int.reduceNatCast',R1,hl_1,aG,aR,aL,aO,hw]
  ·rw[if_neg hat]at ho
   obtain⟨x,gx,ho⟩:=bS ho;obtain⟨xa,xb⟩:=qm gx;have xc:=zi gx;obtain⟨inv,ginv,ho⟩:=bS ho;have winv:ans A 135 [iI p,iI x]=some (iI inv):=s135 p x ginv;obtain⟨own',gown',ho⟩:=bS ho;obtain⟨s,gs,ho⟩:=bS ho;have ox:zk none (List.drop at_.toNat (own.map enc))=some (iI x):=qC (by rw[gF,xb]; rfl);simp only[simprocAttr, -Int.reduceNatCast',R1,b131_1,hl_1,aG,aR,aL,aO,eq_true hlt,hw,ra,rb,wfo,wown,wbr,qK,zm,ah,wat,eq_false hat,xa,eq_true xc,qw,ox,winv];show W A (.block 2 (.loop true b131_2)) _ _ _;rw[qp];refine qF gown' _ rfl (fun k q e h=> q.length=own.length∧h=⟨E++[(c,some (q.map enc))],c+1⟩∧e.length=102∧e.at 0=iI p∧e.at 1=iL rows∧e.at 5=V.sl ko uo 0 out.length 1∧e.at 6=iI i∧e.at 7=V.sl E.length c 0 own.length 1∧e.at 8=iI at_∧e.at 9=iI inv∧e.at 10=iI k) ?_ ?_ ?_
   ·refine⟨rfl,rfl,?_⟩
    simp only[simprocAttr, -Int.reduceNatCast',R1,hl_1,aG,aR,aL,aO]
   ·clear hl_1 aG aR aL aO
    rintro k q e h ⟨hq,rfl,hl_1,aG,aR,aL,aO,aZ,aP,bZ,dS⟩ nG sK s2 lM;unfold F131_2_B at lM;obtain⟨x3,dN,lM⟩:=bS lM;obtain⟨ly,lx⟩:=qm dN;obtain⟨m3,ux,lM⟩:=bS lM;have mm:=qD ux;obtain⟨z3,td,lM⟩:=bS lM;obtain⟨d5,me⟩:=rem_w td;obtain⟨q2,q7,lM⟩:=bS lM;obtain⟨s31,s32,px,s34,pw⟩:=xB q7;have hE:=wA lM; subst hE;have o3:zk none (List.drop k.toNat (q.map enc))=some (iI x3):=qC (by rw[gF,lx]; rfl);have uT:k < (own.length:Int):=nG;have i5:List.take k.toNat (q.map enc)++[iI z3]++List.drop (k.toNat+1) (q.map enc)=List.map enc q2:=pw;simp only[simprocAttr, -Int.reduceNatCast',R1,b131_2,hl_1,aG,aR,aL,aO,aZ,aP,bZ,dS,sK,eq_true nG,qw,jJ,ly,o3,mm,d5,me,px,i5];refine ai rfl ⟨by omega,rfl,?_⟩;simp only[simprocAttr, -Int.reduceNatCast',R1,hl_1,aG,aR,aL,aO,aZ,aP,bZ,dS,sK]
   ·clear hl_1 aG aR aL aO
    rintro k q e h ⟨hq,rfl,hl_1,aG,aR,aL,aO,aZ,aP,bZ,dS⟩ dz t2 lM;unfold F131_2_D at lM;have hE:=wA lM; subst hE;simp only[simprocAttr, -Int.reduceNatCast',R1,b131_2,hl_1,aG,aR,aL,aO,aZ,aP,bZ,dS,eq_false dz,le1];intro ht; subst ht;show W A (.block 4 (.loop true b131_3)) _ _ _;rw[qp];refine qF gs _ rfl (fun k s e h=>∃un vn,h.ents[E.length+1]? =some (un,some vn)∧Rws h.ents (fun k=> k≠E.length+1) vn s.1∧h.ents[E.length]? =some (c,some (q.map enc))∧(∀k,k < E.length→h.ents[k]? =E[k]?)∧e.length=102∧e.at 0=iI p∧e.at 1=iL rows∧e.at 5=V.sl ko uo 0 out.length 1∧e.at 6=iI i∧e.at 7=V.sl E.length c 0 q.length 1∧e.at 8=iI at_∧e.at 11=V.sl (E.length+1) un 0 s.1.length 1∧e.at 12=V.bool s.2∧e.at 13=iI k) ?_ ?_ ?_
    ·refine⟨c+1,[],ge2b ..,.nil,ge2a ..,fun k hk=> by rw[wO]; exact gB hk,?_⟩
     simp only[simprocAttr, -Int.reduceNatCast',R1,hl_1,aG,aR,aL,aO,aZ,aP,bZ,dS,hq]
    ·clear hl_1 aG aR aL aO aZ aP bZ dS
     rintro k ⟨nx,put⟩ e ⟨E3,c3⟩ ⟨un,vn,f1,f2,f3,f4,hl_1,aG,aR,aL,aO,aZ,aP,aT,bN,bW⟩ nF rO s3 iA;unfold F131_3_B at iA;simp only at f1 f2 f3 f4 aT bN iA;obtain⟨cnd,gcnd,iA⟩:=bS iA;obtain⟨st,gst,iA⟩:=bS iA;obtain⟨o,go,iA⟩:=bS iA;obtain⟨oa,ob⟩:=qm go;have oc:=zi go;obtain⟨y,gy,iA⟩:=bS iA;obtain⟨ya,yb⟩:=qm gy;have yc:=zi gy;obtain⟨qq,gqq,iA⟩:=bS iA;have wqq:tans A 136 [1] [iI p,iL o,iL q,iI y]=some (iL qq):=t136 p o q y gqq;have wbq:=bare_one (α:=Int) qq;obtain⟨nn,gnn,iA⟩:=bS iA;have hE:=wA iA; subst hE;have hN1:E.length+1 < E3.length:=gA f1;have k1:E3[ko]? =some (uo,some vs):=(f4 ko hko).trans g1;obtain⟨v,v1,v2⟩:=g2.get ob;have ov:=qC v1;have oy:zk none (List.drop at_.toNat (o.map enc))=some (iI y):=qC (by rw[gF,yb]; rfl);have v3:RRep E3 (fun k=> k < E.length) v o:=v2.frame fun k hk _=>⟨f4 k hk,hk⟩
     -- in any memory that keeps the rows
     have step:∀ (E4:List (nO)) (c4 pb:Nat) (sI:List V),E4[E.length+1]? =some (pb,some sI)→Rws E4 (fun k=> k≠E.length+1) sI st.1→E4[E.length]? =some (c,some (q.map enc))→(∀k,k < E.length→E4[k]? =E[k]?)→
       E4[ko]? =some (uo,some vs)∧frz ⟨E4,c4⟩ 16 v=some (iL o)∧frz ⟨E4,c4⟩ 16 (V.sl E.length c 0 q.length 1)=some (iL q)∧
       qS 1 24 (.sl (E.length+1) pb 0 st.1.length 1) 1 [V.sl E4.length c4 0 qq.length 1] ⟨E4++[(c4,some (qq.map enc))]++[(c4+1,some [V.sl E4.length c4 0 qq.length 1])],c4+1+1⟩=some (.sl (E.length+1) (c4+1+1) 0 (st.1.length+1) 1,⟨(E4++[(c4,some (qq.map enc))]++[(c4+1,some [V.sl E4.length c4 0 qq.length 1])]).set (E.length+1) (c4+1+1,some (sI++[V.sl E4.length c4 0 qq.length 1])),c4+1+1+1⟩)∧
       RRep E4 (fun k=> k < E.length) v o∧
       (((E4++[(c4,some (qq.map enc))]++[(c4+1,some [V.sl E4.length c4 0 qq.length 1])]).set (E.length+1) (c4+1+1,some (sI++[V.sl E4.length c4 0 qq.length 1])))[E.length+1]? =some (c4+1+1,some (sI++[V.sl E4.length c4 0 qq.length 1]))∧
       Rws ((E4++[(c4,some (qq.map enc))]++[(c4+1,some [V.sl E4.length c4 0 qq.length 1])]).set (E.length+1) (c4+1+1,some (sI++[V.sl E4.length c4 0 qq.length 1]))) (fun k=> k≠E.length+1) (sI++[V.sl E4.length c4 0 qq.length 1]) nn∧
       ((E4++[(c4,some (qq.map enc))]++[(c4+1,some [V.sl E4.length c4 0 qq.length 1])]).set (E.length+1) (c4+1+1,some (sI++[V.sl E4.length c4 0 qq.length 1])))[E.length]? =some (c,some (q.map enc))∧
       (∀k,k < E.length→((E4++[(c4,some (qq.map enc))]++[(c4+1,some [V.sl E4.length c4 0 qq.length 1])]).set (E.length+1) (c4+1+1,some (sI++[V.sl E4.length c4 0 qq.length 1])))[k]? =E[k]?)∧nn.length=st.1.length+1):=by
      intro E4 c4 pb sI a1 a2 a3 a4;have hN4:E.length+1 < E4.length:=gA a1;obtain⟨p1,p2,rfl⟩:=app_w gnn;have pre:∀x y (k:Nat),k < E4.length→(E4++[x]++[y])[k]? =E4[k]?:=fun x y k hk=> by rw[wO]; exact gB hk
      refine⟨(a4 ko hko).trans g1,(v2.frame (B':=fun _=> True) fun k hk _=>⟨a4 k hk,trivial⟩).fz c4 10,frz_row a3,zj (E:=E4++[(c4,some (qq.map enc))]++[(c4+1,some [V.sl E4.length c4 0 qq.length 1])]) ((pre _ _ _ hN4).trans a1) a2.len (by simpa using p1) (by simpa using p2),v2.frame fun k hk _=>⟨a4 k hk,hk⟩,ql (by simp; omega),?_,?_,fun k hk=>?_,by simp⟩
      ·exact(a2.frame fun k hk hne=>⟨(qi hne).trans (pre _ _ k hk),hne⟩).snoc ⟨_,_,rfl,(qi (by omega)).trans (ge2a ..),by omega⟩
      ·exact(qi (by omega)).trans ((pre _ _ _ (by omega)).trans a3)
      ·exact(qi (by omega)).trans ((pre _ _ k (by omega)).trans (a4 k hk))
     have hoc:k < (out.length:Int):=oc;cases put with
     |true=>
      unfold F131_3_C at gcnd;rw[if_pos rfl]at gcnd;cases gcnd;rw[if_neg wD]at gst;cases gst;obtain⟨b1,b2,b3,b4,b5,b6,b7,b8,b9,uZ⟩:=step E3 c3 un vn f1 f2 f3 f4;simp only at b4 uZ;obtain⟨kv,uv,rfl,w2,w3⟩:=b5;simp only[simprocAttr, -Int.reduceNatCast',R1,b131_3,hl_1,aG,aR,aL,aO,aZ,aP,aT,bN,bW,rO,eq_true nF,oa,k1,ov,ya,eq_true yc,oy,w2,b2,b3,wqq,wbq,qK,zm,le1,qw,ge2a,ge2b,b4];refine ai rfl ⟨_,_,b6,b7,b8,b9,?_⟩;simp only[simprocAttr, -Int.reduceNatCast',R1,hl_1,aG,aR,aL,aO,aZ,aP,aT,bN,bW,rO,uZ]
     |false=>
      unfold F131_3_C at gcnd;rw[if_neg wD,go,Option.bind_some]at gcnd;obtain⟨ld,gld,gcnd⟩:=bS gcnd;have wld:ans A 81 [iL o]=some (iI ld):=s81 o gld;have hE:=wA gcnd; subst hE;have wfv:=(v2.frame (E':=E3) (B':=fun _=> True) fun k hk _=>⟨f4 k hk,trivial⟩).fz c3 10;by_cases hld:at_ < ld
      ·rw[if_pos (by simpa using hld)]at gst
       obtain⟨n1,uw,gst⟩:=bS gst;obtain⟨p1,p2,rfl⟩:=app_w uw;have hE:=wA gst; subst hE;have wap:qS 1 24 (.sl (E.length+1) un 0 nx.length 1) 1 [V.sl E.length c 0 q.length 1] ⟨E3++[(c3,some [V.sl E.length c 0 q.length 1])],c3+1⟩=_:=zj (E:=E3++[(c3,some [V.sl E.length c 0 q.length 1])]) (by rw[gB hN1]; exact f1) f2.len (by simpa using p1) (by simpa using p2);have r1:Rws ((E3++[(c3,some [V.sl E.length c 0 q.length 1])]).set (E.length+1) (c3+1,some (vn++[V.sl E.length c 0 q.length 1]))) (fun k=> k≠E.length+1) (vn++[V.sl E.length c 0 q.length 1]) (nx++[q]):=
        (f2.frame fun k hk hne=>⟨(qi hne).trans (gB hk),hne⟩).snoc ⟨_,_,rfl,(qi (by omega)).trans ((gB (by omega)).trans f3),by omega⟩
       have hln:(nx++[q]).length=nx.length+1:=by simp
       obtain⟨b1,b2,b3,b4,b5,b6,b7,b8,b9,uZ⟩:=step ((E3++[(c3,some [V.sl E.length c 0 q.length 1])]).set (E.length+1) (c3+1,some (vn++[V.sl E.length c 0 q.length 1]))) (c3+1+1) (c3+1) (vn++[V.sl E.length c 0 q.length 1]) (ql (by simp; omega)) r1 ((qi (by omega)).trans ((gB (by omega)).trans f3)) (fun k hk=>(qi (by omega)).trans ((gB (by omega)).trans (f4 k hk)));have hlb:((E3++[(c3,some [V.sl E.length c 0 q.length 1])]).set (E.length+1) (c3+1,some (vn++[V.sl E.length c 0 q.length 1]))).length=E3.length+1:=by simp
       have hge:=fun y z=> ge2b ((E3++[(c3,some [V.sl E.length c 0 q.length 1])]).set (E.length+1) (c3+1,some (vn++[V.sl E.length c 0 q.length 1]))) y z;simp only[hlb]at hge;simp only[hln,hlb]at b4 b6 b7 b8 b9 uZ;obtain⟨kv,uv,rfl,w2,w3⟩:=b5;simp only[simprocAttr, -Int.reduceNatCast',R1,b131_3,hl_1,aG,aR,aL,aO,aZ,aP,aT,bN,bW,rO,eq_true nF,oa,k1,ov,wfv,wld,eq_true hld,ya,eq_true yc,oy,w2,b1,b2,b3,wap,wqq,wbq,qK,zm,le1,hlb,hge,qw,ge2a,ge2b,b4];refine ai rfl ⟨_,_,b6,b7,b8,b9,?_⟩;simp only[simprocAttr, -Int.reduceNatCast',R1,hl_1,aG,aR,aL,aO,aZ,aP,aT,bN,bW,rO,uZ]
      ·rw[if_neg (by simpa using hld)]at gst
       have hE:=wA gst; subst hE;obtain⟨b1,b2,b3,b4,b5,b6,b7,b8,b9,uZ⟩:=step E3 c3 un vn f1 f2 f3 f4;simp only at b4 uZ;obtain⟨kv,uv,rfl,w2,w3⟩:=b5;simp only[simprocAttr, -Int.reduceNatCast',R1,b131_3,hl_1,aG,aR,aL,aO,aZ,aP,aT,bN,bW,rO,eq_true nF,oa,k1,ov,wfv,wld,eq_false hld,ya,eq_true yc,oy,w2,b2,b3,wqq,wbq,qK,zm,le1,qw,ge2a,ge2b,b4];refine ai rfl ⟨_,_,b6,b7,b8,b9,?_⟩;simp only[simprocAttr, -Int.reduceNatCast',R1,hl_1,aG,aR,aL,aO,aZ,aP,aT,bN,bW,rO,uZ]
    ·clear hl_1 aG aR aL aO aZ aP bZ dS
     rintro k ⟨nx,put⟩ e ⟨E3,c3⟩ ⟨un,vn,f1,f2,f3,f4,hl_1,aG,aR,aL,aO,aZ,aP,aT,bN,bW⟩ rP t3 iA;unfold F131_3_D at iA;have hE:=wA iA; subst hE;simp only at f1 f2 f3 f4 aT bN;have hN1:E.length+1 < E3.length:=gA f1;cases put with
     |true=>
      simp only[simprocAttr, -Int.reduceNatCast',R1,b131_3,hl_1,aG,aR,aL,aO,aZ,aP,aT,bN,bW,eq_false rP,hw];intro ht; subst ht;simp only[if_true]at ho;have hE:=wA ho; subst hE;refine ai rfl ⟨E.length+1,un,vn,f1,f2.frame fun k hk _=>⟨rfl,trivial⟩,?_⟩;simp only[simprocAttr, -Int.reduceNatCast',R1,hl_1,aG,aR,aL,aO,aZ,aP,aT,bN,bW]
     |false=>
      simp only[simprocAttr, -Int.reduceNatCast',R1,b131_3,hl_1,aG,aR,aL,aO,aZ,aP,aT,bN,bW,eq_false rP,hw,le1,qw];intro ht; subst ht;rw[if_neg wD]at ho;obtain⟨n1,uw,ho⟩:=bS ho;obtain⟨p1,p2,rfl⟩:=app_w uw;have hE:=wA ho; subst hE;have wap:qS 1 24 (.sl (E.length+1) un 0 nx.length 1) 1 [V.sl E.length c 0 q.length 1] ⟨E3++[(c3,some [V.sl E.length c 0 q.length 1])],c3+1⟩=_:=zj (E:=E3++[(c3,some [V.sl E.length c 0 q.length 1])]) (by rw[gB hN1]; exact f1) f2.len (by simpa using p1) (by simpa using p2);have r1:Rws ((E3++[(c3,some [V.sl E.length c 0 q.length 1])]).set (E.length+1) (c3+1,some (vn++[V.sl E.length c 0 q.length 1]))) (fun k=> k≠E.length+1) (vn++[V.sl E.length c 0 q.length 1]) (nx++[q]):=
       (f2.frame fun k hk hne=>⟨(qi hne).trans (gB hk),hne⟩).snoc ⟨_,_,rfl,(qi (by omega)).trans ((gB (by omega)).trans f3),by omega⟩
      simp only[simprocAttr, -Int.reduceNatCast',R1,b131_3,hl_1,aG,aR,aL,aO,aZ,aP,aT,bN,bW,eq_false rP,hw,le1,qw,wap];refine ai rfl ⟨E.length+1,c3+1,_,ql (by simp; omega),r1.frame fun k hk _=>⟨rfl,trivial⟩,?_⟩;simp only[simprocAttr, -Int.reduceNatCast',R1,hl_1,aG,aR,aL,aO,aZ,aP,aT,bN,bW,wM]
 ·clear hl_0 aA aB
  rintro i out e ⟨E,c⟩ ⟨ko,uo,vs,g1,g2,hl_1,aG,aR,aL,aO⟩ hge t1 ho;unfold F131_1_D at ho;have hE:=wA ho; subst hE;simp only at g1 g2;simp only[simprocAttr, -Int.reduceNatCast',R1,b131_1,hl_1,aG,aR,aL,aO,eq_false hge];intro ht; subst ht;refine ai (fun _=> trivial) ⟨_,?_,ko,uo,vs,rfl,g1,g2⟩;simp only[simprocAttr, -Int.reduceNatCast',R1,qg,p131,Rs.ev,hl_1,aL]
theorem s131(p:Int)(rows:aJ){r:aJ}(hF:F131 p rows=some r):ans A 131 [iI p,iL rows]=some (enc r):=by
 obtain⟨_,h',h1,k,u,vs,rfl,h2,h3⟩:=d131 p rows hF;have:=h3.fz h'.clk h2;unfold ans;rw[h1];exact this
def F122_1_B(a0:Int)(a1:Int)(a2:aJ)(cY:Int)(s:aJ×Int):Option ((aJ×Int)⊕(aJ×Int)):=
 match s with
 |(aN,aS)=>
  (mkL 8 a1 0).bind fun l5=>
  (getI l5 cY).bind fun x7=>
  (setI l5 cY 1).bind fun l9=>
  (getI a2 cY).bind fun bC=>
  (F94 bC).bind fun eI=>
  (app 8 eI l9).bind fun mB=>
  (app 24 aN [mB]).bind fun de=>
  some (.inl (de,(bC.length:Int)))
def F122_1_D(a0:Int)(a1:Int)(a2:aJ)(cY:Int)(s:aJ×Int):Option (aJ×Int):=
 match s with
 |(aN,aS)=>
  some (aN,aS)
def xJ(fK:Int)(fF:aJ)(tT:Int)(dP:aJ):Option ((aJ)⊕(aJ)):=
 (getI fF tT).bind fun fZ=>
(F81 fZ).bind fun kM=>
if fK≤kM then
 (slI fZ fK (fZ.length:Int)).bind fun uP=>
 (F94 uP).bind fun nT=>
 (app 24 dP [nT]).bind fun cy=>
 some (.inl cy)
else
 some (.inl dP)
def kL(fK:Int)(fF:aJ)(tT:Int)(dP:aJ):Option (aJ):=
 some dP
def F122(a0:Int)(a1:Int)(a2:aJ):Option aJ:=
 (forR 0 a1 (F122_1_B a0 a1 a2) (F122_1_D a0 a1 a2) ([],0)).bind fun t19=> match t19 with
  |(aM,fK)=>
   (F131 a0 aM).bind fun fF=>
   (forR 0 (fF.length:Int) (xJ fK fF) (kL fK fF) ([]:aJ)).bind fun dM=>
   some dM
def I122_1(a0:Int)(a1:Int)(a2:aJ)(cY:Int)(s:aJ×Int)(e:Env)(h:Heap):Prop:=
 match s with
 |(aN,aS)=>
  ∃u2 k3:Nat,h=⟨[(u2,some (aN.map enc))],k3⟩∧e.length=68∧e.at 0=iI a0∧e.at 1=iI a1∧e.at 2=iL a2∧e.at 7=V.sl 0 u2 0 aN.length 1∧e.at 8=iI aS∧e.at 9=iI cY
def P122_1(a0:Int)(a1:Int)(a2:aJ)(t:aJ×Int)(x:Ex)(e:Env)(h:Heap):Prop:=
 match t with
 |(aM,fK)=>
  x= .normal∧∃u2 k3:Nat,h=⟨[(u2,some (aM.map enc))],k3⟩∧e.length=68∧e.at 0=iI a0∧e.at 7=V.sl 0 u2 0 aM.length 1∧e.at 8=iI fK
theorem l122_1(a0:Int)(a1:Int)(a2:aJ){lo:Int}{s:aJ×Int}{t:aJ×Int}(hF:forR lo a1 (F122_1_B a0 a1 a2) (F122_1_D a0 a1 a2) s=some t){e:Env}{h:Heap}(hI:I122_1 a0 a1 a2 lo s e h):W A c122_1 e h (P122_1 a0 a1 a2 t):=by
 show W A (.block 0 (.loop false b122_1)) e h _;rw[qp];refine qF hF 1 (by rcases s with⟨_,_⟩; obtain⟨_,_,rfl,_⟩:=hI; rfl) (I122_1 a0 a1 a2) hI ?_ ?_
 ·rintro cY ⟨aN,aS⟩ e h ⟨u2,k3,rfl,h_1⟩ hlt hw o ho
  unfold F122_1_B at ho;dsimp only at ho;obtain⟨l5,fw,ho⟩:=bS ho;obtain⟨lH,lG,s9,pE,pY⟩:=mkL_w fw;replace pY:(List.replicate (Int.toNat a1) [iI 0]).flatten=List.map enc l5:=pY;obtain⟨x7,dQ,ho⟩:=bS ho;obtain⟨nV,mZ⟩:=qm dQ;have tP:=zi dQ;replace tP:cY < (((Int.toNat a1):Nat):Int):=by first|exact tP|(simp only[pE]at tP ⊢; exact tP)
  have ir:List.drop (Int.toNat cY) (l5.map enc)=(iI x7)::List.drop ((Int.toNat cY)+1) (l5.map enc):=xh mZ;obtain⟨l9,gl9,ho⟩:=bS ho;obtain⟨nZ,nY,g9,mI,sW⟩:=xB gl9;replace sW:List.take (Int.toNat cY) (l5.map enc)++[iI 1]++List.drop (Int.toNat cY+1) (l5.map enc)=List.map enc l9:=sW;obtain⟨bC,dU,ho⟩:=bS ho;obtain⟨kV,kU⟩:=qm dU;obtain⟨eI,fJ,ho⟩:=bS ho;have sV:tans A 94 [1] [iL bC]=some (iL eI):=t94 bC fJ;have cd:=zm (α:=Int) eI;obtain⟨mB,pA,ho⟩:=bS ho;have rA:=fun a b c d e=> qA (α:=Int) (n:=eI.length) (m:=(Int.toNat a1)) (ds:=List.map enc l9) pA (by first|rfl|simp only[pE,mI]) (by first|rfl|simp only[pE,mI]) rfl a b c d e;have oj:=qO pA;obtain⟨de,sE,ho⟩:=bS ho;have bv:=fun a b c d e=> qA (α:=L1) (n:=aN.length) (m:=1) (ds:=[iL mB]) sE (by first|rfl|simp only[pE,mI]) (by first|rfl|simp only[pE,mI]) rfl a b c d e;have od:=qO sE;cases ho;simp only[simprocAttr, -Int.reduceNatCast',R0,b122_1,h_1,eq_true hlt,hw,lH,lG,s9,pY,nV,mZ,tP,ir,nZ,nY,g9,sW,kV,kU,sV,cd,kq (α:=Int) (l:=l9) (n:=(Int.toNat a1)) (by first|rfl|simp only[pE,mI]),eq_true (le_of_len (l:=l9) (n:=(Int.toNat a1)) (by first|rfl|simp only[pE,mI])),rA,qR (α:=Int) mB,bv];refine ai rfl (ei _ (ei _ (ai rfl ?_)));simp only[simprocAttr, -Int.reduceNatCast',R0,h_1,eq_true hlt,hw,lH,lG,s9,pY,nV,mZ,tP,ir,nZ,nY,g9,sW,kV,kU,sV,cd,kq (α:=Int) (l:=l9) (n:=(Int.toNat a1)) (by first|rfl|simp only[pE,mI]),eq_true (le_of_len (l:=l9) (n:=(Int.toNat a1)) (by first|rfl|simp only[pE,mI])),rA,qR (α:=Int) mB,bv,pE,mI]
 ·rintro cY ⟨aN,aS⟩ e h ⟨u2,k3,rfl,h_1⟩ hge t1 ho
  unfold F122_1_D at ho;dsimp only at ho;cases ho;simp only[simprocAttr, -Int.reduceNatCast',R0,b122_1,h_1,eq_false hge];intro ht; subst ht;refine ai rfl (ei _ (ei _ (ai rfl ?_)));simp only[simprocAttr, -Int.reduceNatCast',R0,h_1,eq_false hge]
theorem d122(a0:Int)(a1:Int)(a2:aJ){r:aJ}(hF:F122 a0 a1 a2=some r):∃v h',res A 122 [iI a0,iI a1,iL a2] Heap.empty=some (v,h')∧∃K,Deep.rep h' v r K:=by
 refine xp (f:=p122) rfl rfl rfl fun e hl he=>?_;have aA:=he 0 _ rfl;have aB:=he 1 _ rfl;have aU:=he 2 _ rfl;have hl_0:e.length=68:=hl;clear he hl;show W A b122 e ⟨[],0⟩ _;unfold F122 at hF;obtain⟨⟨aM,fK⟩,p9,hF⟩:=bS hF;dsimp only at hF;simp only[simprocAttr, -Int.reduceNatCast',R0,b122, *];refine W.mono (l122_1 a0 a1 a2 p9 (ei _ (ei _ (ai rfl ?_)))) ?_
 ·simp only[simprocAttr, -Int.reduceNatCast',R0, *]
 rintro _ e _ ⟨rfl,u2,k3,rfl,hl_4,fe,rS,eo⟩;obtain⟨fF,fS,hF⟩:=bS hF;have nv:=s131 a0 aM fS;obtain⟨dM,o9,hF⟩:=bS hF;have hE:=wA hF; subst hE;simp only[simprocAttr, -Int.reduceNatCast',R0,qR (α:=L1) aM, *];show W A (.block 2 (.loop true b122_2)) _ _ _;rw[qp];refine qF o9 _ rfl (fun i s e h=>∃v,∃K:Ks,Deep.rep h v s K∧e.length=68∧e.at 8=iI fK∧e.at 11=iL fF∧e.at 12=v∧e.at 13=iI i) ?_ ?_ ?_
 ·refine⟨V.sl 1 k3 0 0 1,fun k=> k=1∨False,rep_at (α:=L1) (l:=[]) (K:=fun _=> False) (h:=⟨[(0,none),(k3,some [])],k3+1⟩) rfl (fun _ x=> x) (fun x=> x),?_⟩
  simp only[simprocAttr, -Int.reduceNatCast',R0, *]
 ·clear hl_4 fe rS eo hl_0 aA aB aU p9
  rintro i s e ⟨E,c⟩ ⟨v,K,g1,hl_1,aP,aT,bN,bW⟩ hlt hw oo ho;unfold xJ at ho;obtain⟨fZ,mU,ho⟩:=bS ho;obtain⟨be,az⟩:=qm mU;obtain⟨kM,oV,ho⟩:=bS ho;have w29:=s81 fZ oV;by_cases c30:fK≤kM
  ·rw[if_pos c30]at ho
   obtain⟨uP,tH,ho⟩:=bS ho;have w32:xA 1 (iL fZ) (some (iI fK)) none=some (iL uP):=sliceV_w (α:=Int) One.one tH (.inr rfl) (.inl ⟨rfl,rfl⟩);obtain⟨nT,oT,ho⟩:=bS ho;have w34:tans A 94 [1] [iL uP]=some (iL nT):=t94 uP oT;obtain⟨cy,tG,ho⟩:=bS ho;have hE:=wA ho; subst hE;have re:∀ (x y:nO) k,k < E.length→(E++[x]++[y])[k]? =E[k]?:=fun x y k q=> by rw[wO]; exact gB q
   obtain⟨v',E',c',K',p1,p2,p3,p4,p5⟩:=xl (E:=E++[(c,some (nT.map enc))]++[(c+1,some [V.sl E.length c 0 nT.length 1])]) (c:=c+1+1) (Deep.frame g1 fun k q=> re _ _ k (Deep.bd g1 q)) (zY (l:=nT) (ge2a ..) fun k=> vY) (fun k q e=> by have:=Deep.bd g1 q; simp only at this; omega) tG;simp only[simprocAttr, -Int.reduceNatCast',R0,b122_2,qK,zm,qw,le1,ge2a,ge2b,p1, *];refine ai rfl ⟨v',K',p2,?_⟩;simp only[simprocAttr, -Int.reduceNatCast',R0, *]
  ·rw[if_neg c30]at ho
   have hE:=wA ho; subst hE;simp only[simprocAttr, -Int.reduceNatCast',R0,b122_2, *];refine ai rfl ⟨v,K,g1,?_⟩;simp only[simprocAttr, -Int.reduceNatCast',R0, *]
 ·clear hl_4 fe rS eo hl_0 aA aB aU p9
  rintro i s e ⟨E,c⟩ ⟨v,K,g1,hl_1,aP,aT,bN,bW⟩ hge t1 ho;unfold kL at ho;have hE:=wA ho; subst hE;simp only[simprocAttr, -Int.reduceNatCast',R0,b122_2, *];intro ht; subst ht;refine ai (fun _=> trivial) ⟨v,?_,K,g1⟩;simp only[simprocAttr, -Int.reduceNatCast',R0,qg,p122,Rs.ev, *]
theorem x122(a0:Int)(a1:Int)(a2:aJ){r:aJ}(hF:F122 a0 a1 a2=some r):tans A 122 [1,1] [iI a0,iI a1,iL a2]=some (enc r):=ju (α:=aJ) (by decide) (d122 a0 a1 a2 hF)
theorem s122(a0:Int)(a1:Int)(a2:aJ){r:aJ}(hF:F122 a0 a1 a2=some r):ans A 122 [iI a0,iI a1,iL a2]=some (enc r):=ans_of_deep (α:=aJ) (by decide) (d122 a0 a1 a2 hF)
def F310_1_S(a0:qc)(a1:Int)(a2:Int)(s:L1×Int):Option ((L1×Int)⊕(L1)):=
 match s with
 |(aD,aS)=>
  (F99 a0.C a1).bind fun x5=>
  if aS < x5 then
   (F77 a0 a1 aS).bind fun x8=>
   if x8≤a2 then
    (app 8 aD [aS]).bind fun sJ=>
    (chk (aS+1)).bind fun eI=>
    some (.inl (sJ,eI))
   else
    (chk (aS+1)).bind fun cW=>
    some (.inl (aD,cW))
  else
   some (.inr aD)
def F310(a0:qc)(a1:Int)(a2:Int):Option L1:=
 (qY (F310_1_S a0 a1 a2) ([],0)).bind fun aF=>
 some aF
def I310_1(a0:qc)(a1:Int)(a2:Int)(s:L1×Int)(e:Env)(h:Heap):Prop:=
 match s with
 |(aD,aS)=>
  ∃u2 k3:Nat,h=⟨[(0,none),(u2,some (aD.map enc))],k3⟩∧e.length=29∧e.at 1=iI a1∧e.at 2=iI a2∧e.at 3=eQ a0∧e.at 7=V.sl 1 u2 0 aD.length 1∧e.at 8=iI aS
def P310_1(a0:qc)(a1:Int)(a2:Int)(aF:L1)(x:Ex)(e:Env)(h:Heap):Prop:=
 x= .normal∧∃u2 k3:Nat,h=⟨[(0,none),(u2,some (aF.map enc))],k3⟩∧e.length=29∧e.at 7=V.sl 1 u2 0 aF.length 1
theorem l310_1(a0:qc)(a1:Int)(a2:Int){s:L1×Int}{t:L1}(hF:qY (F310_1_S a0 a1 a2) s=some t){e:Env}{h:Heap}(hI:I310_1 a0 a1 a2 s e h):W A c310_1 e h (P310_1 a0 a1 a2 t):=by
 show W A (.block 0 (.loop false b310_1)) e h _;rw[qp];refine zW hF 2 (by rcases s with⟨_,_⟩; obtain⟨_,_,rfl,_⟩:=hI; rfl) (I310_1 a0 a1 a2) hI ?_
 ·rintro⟨aD,aS⟩ e h ⟨u2,k3,rfl,h_1⟩ o ho
  unfold F310_1_S at ho;dsimp only at ho;obtain⟨x5,dB,ho⟩:=bS ho;have w6:=s99 a0.C a1 dB;by_cases c7:aS < x5
  ·rw[if_pos c7]at ho
   obtain⟨x8,oJ,ho⟩:=bS ho;have w9:=s77 a0 a1 aS oJ;by_cases c10:x8≤a2
   ·rw[if_pos c10]at ho
    obtain⟨sJ,nQ,ho⟩:=bS ho;have sH:=fun a b c d e=> qA (α:=Int) (n:=aD.length) (m:=1) (ds:=[iI aS]) nQ (by first|rfl|simp) (by first|rfl|simp) rfl a b c d e;have ch:=qO nQ;obtain⟨eI,fJ,ho⟩:=bS ho;have rH:=qD fJ;cases ho;simp only[simprocAttr,R0,b310_1, *];refine ai rfl (ei _ (ei _ (ai rfl ?_)));simp only[simprocAttr,R0, *]
   ·rw[if_neg c10]at ho
    obtain⟨cW,dY,ho⟩:=bS ho;have sO:=qD dY;cases ho;simp only[simprocAttr,R0,b310_1, *];refine ai rfl (ei _ (ei _ (ai rfl ?_)));simp only[simprocAttr,R0, *]
  ·rw[if_neg c7]at ho
   cases ho;simp only[simprocAttr,R0,b310_1, *];intro ht; subst ht;simp only[simprocAttr,RR,RB];refine ai rfl (ei _ (ei _ (ai rfl ?_)));simp only[simprocAttr,R0, *]
theorem s310(a0:qc)(a1:Int)(a2:Int){r:L1}(hF:F310 a0 a1 a2=some r):ans A 310 [(eF a0),iI a1,iI a2]=some (enc r):=by
 refine qB (f:=p310) rfl rfl rfl fun e hl he=>?_;have aA:=he 0 _ rfl;have aB:=he 1 _ rfl;have aU:=he 2 _ rfl;have hl_0:e.length=29:=hl;clear he hl;show W A b310 e ⟨[],0⟩ _;unfold F310 at hF;obtain⟨aF,sC,hF⟩:=bS hF;simp only[simprocAttr, -Int.reduceNatCast',R0,b310, *];refine W.mono (l310_1 a0 a1 a2 sC (ei _ (ei _ (ai rfl ?_)))) ?_
 ·simp only[simprocAttr, -Int.reduceNatCast',R0, *]
 rintro _ e _ ⟨rfl,u2,k3,rfl,hl_4,rS⟩;have hE:=wA hF; subst hE;simp only[simprocAttr, -Int.reduceNatCast',R0, *];exact qh (by simp only[simprocAttr, -Int.reduceNatCast',R0,qg,p310,Rs.ev,qd,frzs (α:=Int) aF,qR (α:=Int) aF, *])
def F311_2_B(a0:aJ)(a1:L1)(a2:Int)(aN:aJ)(aS:Int)(aV:Int)(dP:L1):Option ((L1)⊕(L1)):=
 (getI a1 aV).bind fun bC=>
(getI a0 aS).bind fun eI=>
(getI eI aV).bind fun fV=>
(getI dP bC).bind fun dO=>
(setI dP bC fV).bind fun sZ=>
some (.inl sZ)
def F311_2_D(a0:aJ)(a1:L1)(a2:Int)(aN:aJ)(aS:Int)(aV:Int)(dP:L1):Option (L1):=
 some dP
def F311_1_B(a0:aJ)(a1:L1)(a2:Int)(aS:Int)(aN:aJ):Option ((aJ)⊕(aJ)):=
 (mkL 8 a2 0).bind fun l5=>
(forR 0 (a1.length:Int) (F311_2_B a0 a1 a2 aN aS) (F311_2_D a0 a1 a2 aN aS) l5).bind fun dM=>
(app 24 aN [dM]).bind fun rC=>
some (.inl rC)
def F311_1_D(a0:aJ)(a1:L1)(a2:Int)(aS:Int)(aN:aJ):Option (aJ):=
 some aN
def F311(a0:aJ)(a1:L1)(a2:Int):Option aJ:=
 (forR 0 (a0.length:Int) (F311_1_B a0 a1 a2) (F311_1_D a0 a1 a2) ([]:aJ)).bind fun aM=>
 some aM
def I311_2(a0:aJ)(a1:L1)(a2:Int)(aN:aJ)(aS:Int)(u2:Nat)(aV:Int)(dP:L1)(e:Env)(h:Heap):Prop:=
 ∃u8 k9:Nat,h=⟨[(u2,some (aN.map enc)),(u8,some (dP.map enc))],k9⟩∧e.length=44∧e.at 0=iL a0∧e.at 1=iL a1∧e.at 2=iI a2∧e.at 7=V.sl 0 u2 0 aN.length 1∧e.at 8=iI aS∧e.at 9=V.sl 1 u8 0 dP.length 1∧e.at 10=iI aV
def P311_2(a0:aJ)(a1:L1)(a2:Int)(aN:aJ)(aS:Int)(u2:Nat)(dM:L1)(x:Ex)(e:Env)(h:Heap):Prop:=
 x= .normal∧∃u8 k9:Nat,h=⟨[(u2,some (aN.map enc)),(u8,some (dM.map enc))],k9⟩∧e.length=44∧e.at 0=iL a0∧e.at 1=iL a1∧e.at 2=iI a2∧e.at 7=V.sl 0 u2 0 aN.length 1∧e.at 8=iI aS∧e.at 9=V.sl 1 u8 0 dM.length 1
theorem l311_2(a0:aJ)(a1:L1)(a2:Int)(aN:aJ)(aS:Int)(u2:Nat){lo:Int}{s:L1}{t:L1}(hF:forR lo (a1.length:Int) (F311_2_B a0 a1 a2 aN aS) (F311_2_D a0 a1 a2 aN aS) s=some t){e:Env}{h:Heap}(hI:I311_2 a0 a1 a2 aN aS u2 lo s e h):W A c311_2 e h (P311_2 a0 a1 a2 aN aS u2 t):=by
 show W A (.block 2 (.loop false b311_2)) e h _;rw[qp];refine qF hF 2 (by obtain⟨_,_,rfl,_⟩:=hI; rfl) (I311_2 a0 a1 a2 aN aS u2) hI ?_ ?_
 ·rintro aV dP e h ⟨u8,k9,rfl,h_7⟩ hlt hw o ho
  unfold F311_2_B at ho;obtain⟨bC,dU,ho⟩:=bS ho;obtain⟨kV,kU⟩:=qm dU;obtain⟨eI,fJ,ho⟩:=bS ho;obtain⟨ot,oq⟩:=qm fJ;obtain⟨fV,iN,ho⟩:=bS ho;obtain⟨nX,nA⟩:=qm iN;obtain⟨dO,fI,ho⟩:=bS ho;obtain⟨rI,nW⟩:=qm fI;have sU:=zi fI;have mH:List.drop (Int.toNat bC) (dP.map enc)=(iI dO)::List.drop ((Int.toNat bC)+1) (dP.map enc):=xh nW;obtain⟨sZ,pV,ho⟩:=bS ho;obtain⟨ny,nw,w20c,w20d,bm⟩:=xB pV;replace bm:List.take (Int.toNat bC) (dP.map enc)++[iI fV]++List.drop (Int.toNat bC+1) (dP.map enc)=List.map enc sZ:=bm;cases ho;simp only[simprocAttr,R0,b311_2, *];refine ai rfl (ei _ (ei _ (ai rfl ?_)));simp only[simprocAttr,R0, *]
 ·rintro aV dP e h ⟨u8,k9,rfl,h_7⟩ hge t1 ho
  unfold F311_2_D at ho;cases ho;simp only[simprocAttr,R0,b311_2, *];intro ht; subst ht;refine ai rfl (ei _ (ei _ (ai rfl ?_)));simp only[simprocAttr,R0, *]
def I311_1(a0:aJ)(a1:L1)(a2:Int)(aS:Int)(aN:aJ)(e:Env)(h:Heap):Prop:=
 ∃u2 k3:Nat,h=⟨[(u2,some (aN.map enc))],k3⟩∧e.length=44∧e.at 0=iL a0∧e.at 1=iL a1∧e.at 2=iI a2∧e.at 7=V.sl 0 u2 0 aN.length 1∧e.at 8=iI aS
def P311_1(a0:aJ)(a1:L1)(a2:Int)(aM:aJ)(x:Ex)(e:Env)(h:Heap):Prop:=
 x= .normal∧∃u2 k3:Nat,h=⟨[(u2,some (aM.map enc))],k3⟩∧e.length=44∧e.at 7=V.sl 0 u2 0 aM.length 1
theorem l311_1(a0:aJ)(a1:L1)(a2:Int){lo:Int}{s:aJ}{t:aJ}(hF:forR lo (a0.length:Int) (F311_1_B a0 a1 a2) (F311_1_D a0 a1 a2) s=some t){e:Env}{h:Heap}(hI:I311_1 a0 a1 a2 lo s e h):W A c311_1 e h (P311_1 a0 a1 a2 t):=by
 show W A (.block 0 (.loop false b311_1)) e h _;rw[qp];refine qF hF 1 (by obtain⟨_,_,rfl,_⟩:=hI; rfl) (I311_1 a0 a1 a2) hI ?_ ?_
 ·rintro aS aN e h ⟨u2,k3,rfl,h_1⟩ hlt hw o ho
  unfold F311_1_B at ho;obtain⟨l5,fw,ho⟩:=bS ho;obtain⟨lH,lG,s9,pE,pY⟩:=mkL_w fw;replace pY:(List.replicate (Int.toNat a2) [iI 0]).flatten=List.map enc l5:=pY;obtain⟨dM,oY,ho⟩:=bS ho;simp only[simprocAttr, -Int.reduceNatCast',R0,b311_1, *];refine W.mono (l311_2 a0 a1 a2 aN aS u2 oY (ei _ (ei _ (ai rfl ?_)))) ?_
  ·simp only[simprocAttr, -Int.reduceNatCast',R0, *]
  rintro _ e _ ⟨rfl,u8,k9,rfl,h_10⟩;obtain⟨rC,lU,ho⟩:=bS ho;have e9:=fun a b c d e=> qA (α:=L1) (n:=aN.length) (m:=1) (ds:=[iL dM]) lU (by first|rfl|simp) (by first|rfl|simp) rfl a b c d e;have bl:=qO lU;cases ho;simp only[simprocAttr, -Int.reduceNatCast',R0,qR (α:=Int) dM, *];refine ai rfl (ei _ (ei _ (ai rfl ?_)));simp only[simprocAttr, -Int.reduceNatCast',R0,qR (α:=Int) dM, *]
 ·rintro aS aN e h ⟨u2,k3,rfl,h_1⟩ hge t1 ho
  unfold F311_1_D at ho;cases ho;simp only[simprocAttr, -Int.reduceNatCast',R0,b311_1, *];intro ht; subst ht;refine ai rfl (ei _ (ei _ (ai rfl ?_)));simp only[simprocAttr, -Int.reduceNatCast',R0, *]
theorem s311(a0:aJ)(a1:L1)(a2:Int){r:aJ}(hF:F311 a0 a1 a2=some r):ans A 311 [iL a0,iL a1,iI a2]=some (enc r):=by
 refine qB (f:=p311) rfl rfl rfl fun e hl he=>?_;have aA:=he 0 _ rfl;have aB:=he 1 _ rfl;have aU:=he 2 _ rfl;have hl_0:e.length=44:=hl;clear he hl;show W A b311 e ⟨[],0⟩ _;unfold F311 at hF;obtain⟨aM,p8,hF⟩:=bS hF;simp only[simprocAttr, -Int.reduceNatCast',R0,b311, *];refine W.mono (l311_1 a0 a1 a2 p8 (ei _ (ei _ (ai rfl ?_)))) ?_
 ·simp only[simprocAttr, -Int.reduceNatCast',R0, *]
 rintro _ e _ ⟨rfl,u2,k3,rfl,hl_4,rS⟩;have hE:=wA hF; subst hE;simp only[simprocAttr, -Int.reduceNatCast',R0, *];exact qh (by simp only[simprocAttr, -Int.reduceNatCast',R0,qg,p311,Rs.ev,qd,frzs (α:=L1) aM,qR (α:=L1) aM, *])
def F280_2_S(a0:qc)(a1:Int)(a2:Int)(a3:Int)(x1:Int)(x3:L1)(x5:aJ)(aD:aJ)(dR:Int)(s:L1×Int):Option ((L1×Int)⊕(L1)):=
 match s with
 |(bP,hP)=>
  if 0 < a2 then
   (chk (a2 - 1)).bind fun iG=>
   (F99 a0.C iG).bind fun dO=>
   if hP < dO then
    (F77 a0 iG hP).bind fun fF=>
    (chk (a3 - a1)).bind fun fA=>
    if fA < fF then
     (getI x3 dR).bind fun x24=>
     (getI x5 x24).bind fun fZ=>
     (getI fZ hP).bind fun kM=>
     (app 8 bP [kM]).bind fun uP=>
     (chk (hP+1)).bind fun eH=>
     some (.inl (uP,eH))
    else
     (chk (hP+1)).bind fun nT=>
     some (.inl (bP,nT))
   else
    some (.inr bP)
  else
   some (.inr bP)
def F280_1_B(a0:qc)(a1:Int)(a2:Int)(a3:Int)(x1:Int)(x3:L1)(x5:aJ)(dR:Int)(aD:aJ):Option ((aJ)⊕(aJ)):=
 (qY (F280_2_S a0 a1 a2 a3 x1 x3 x5 aD dR) ([],0)).bind fun bO=>
(app 24 aD [bO]).bind fun cy=>
some (.inl cy)
def F280_1_D(a0:qc)(a1:Int)(a2:Int)(a3:Int)(x1:Int)(x3:L1)(x5:aJ)(dR:Int)(aD:aJ):Option (aJ):=
 some aD
def F280(a0:qc)(a1:Int)(a2:Int)(a3:Int):Option aJ:=
 (F99 a0.C a2).bind fun x1=>
 (F310 a0 a2 a3).bind fun x3=>
 (F76 a0.C a2).bind fun x5=>
 (forR 0 (x3.length:Int) (F280_1_B a0 a1 a2 a3 x1 x3 x5) (F280_1_D a0 a1 a2 a3 x1 x3 x5) ([]:aJ)).bind fun aF=>
 (F122 a0.C.P (x3.length:Int) aF).bind fun fY=>
 (F311 fY x3 x1).bind fun rG=>
 (F131 a0.C.P rG).bind fun nS=>
 some nS
def I280_2(a0:qc)(a1:Int)(a2:Int)(a3:Int)(x1:Int)(x3:L1)(x5:aJ)(aD:aJ)(dR:Int)(u8:Nat)(s:L1×Int)(e:Env)(h:Heap):Prop:=
 match s with
 |(bP,hP)=>
  ∃lI fW:Nat,h=⟨[(0,none),(u8,some (aD.map enc)),(lI,some (bP.map enc))],fW⟩∧e.length=89∧e.at 1=iI a1∧e.at 2=iI a2∧e.at 3=iI a3∧e.at 4=eQ a0∧e.at 9=iI a0.C.P∧e.at 10=iI x1∧e.at 11=iL x3∧e.at 12=iL x5∧e.at 13=V.sl 1 u8 0 aD.length 1∧e.at 14=iI dR∧e.at 15=V.sl 2 lI 0 bP.length 1∧e.at 16=iI hP
def P280_2(a0:qc)(a1:Int)(a2:Int)(a3:Int)(x1:Int)(x3:L1)(x5:aJ)(aD:aJ)(dR:Int)(u8:Nat)(bO:L1)(x:Ex)(e:Env)(h:Heap):Prop:=
 x= .normal∧∃lI fW:Nat,h=⟨[(0,none),(u8,some (aD.map enc)),(lI,some (bO.map enc))],fW⟩∧e.length=89∧e.at 1=iI a1∧e.at 2=iI a2∧e.at 3=iI a3∧e.at 4=eQ a0∧e.at 9=iI a0.C.P∧e.at 10=iI x1∧e.at 11=iL x3∧e.at 12=iL x5∧e.at 13=V.sl 1 u8 0 aD.length 1∧e.at 14=iI dR∧e.at 15=V.sl 2 lI 0 bO.length 1
theorem l280_2(a0:qc)(a1:Int)(a2:Int)(a3:Int)(x1:Int)(x3:L1)(x5:aJ)(aD:aJ)(dR:Int)(u8:Nat){s:L1×Int}{t:L1}(hF:qY (F280_2_S a0 a1 a2 a3 x1 x3 x5 aD dR) s=some t){e:Env}{h:Heap}(hI:I280_2 a0 a1 a2 a3 x1 x3 x5 aD dR u8 s e h):W A c280_2 e h (P280_2 a0 a1 a2 a3 x1 x3 x5 aD dR u8 t):=by
 show W A (.block 2 (.loop false b280_2)) e h _;rw[qp];refine zW hF 3 (by rcases s with⟨_,_⟩; obtain⟨_,_,rfl,_⟩:=hI; rfl) (I280_2 a0 a1 a2 a3 x1 x3 x5 aD dR u8) hI ?_
 ·rintro⟨bP,hP⟩ e h ⟨lI,fW,rfl,h_11⟩ o ho
  unfold F280_2_S at ho;dsimp only at ho;by_cases il:0 < a2
  ·rw[if_pos il]at ho
   obtain⟨iG,iU,ho⟩:=bS ho;have d9:=qD iU;obtain⟨dO,fI,ho⟩:=bS ho;have pZ:=s99 a0.C iG fI;by_cases ij:hP < dO
   ·rw[if_pos ij]at ho
    obtain⟨fF,fS,ho⟩:=bS ho;have nv:=s77 a0 iG hP fS;obtain⟨fA,iQ,ho⟩:=bS ho;have mi:=qD iQ;by_cases uY:fA < fF
    ·rw[if_pos uY]at ho
     obtain⟨x24,lP,ho⟩:=bS ho;obtain⟨bh,bg⟩:=qm lP;obtain⟨fZ,mU,ho⟩:=bS ho;obtain⟨be,az⟩:=qm mU;obtain⟨kM,oV,ho⟩:=bS ho;obtain⟨nm,nl⟩:=qm oV;obtain⟨uP,tH,ho⟩:=bS ho;have w30:=fun a b c d e=> qA (α:=Int) (n:=bP.length) (m:=1) (ds:=[iI kM]) tH (by first|rfl|simp) (by first|rfl|simp) rfl a b c d e;have w30l:=qO tH;obtain⟨eH,mT,ho⟩:=bS ho;have wx32:=qD mT;cases ho;simp only[simprocAttr,R0,b280_2, *];refine ai rfl (ei _ (ei _ (ai rfl ?_)));simp only[simprocAttr,R0, *]
    ·rw[if_neg uY]at ho
     obtain⟨nT,oT,ho⟩:=bS ho;have ae:=qD oT;cases ho;simp only[simprocAttr,R0,b280_2, *];refine ai rfl (ei _ (ei _ (ai rfl ?_)));simp only[simprocAttr,R0, *]
   ·rw[if_neg ij]at ho
    cases ho;simp only[simprocAttr,R0,b280_2, *];intro ht; subst ht;simp only[simprocAttr,RR,RB];refine ai rfl (ei _ (ei _ (ai rfl ?_)));simp only[simprocAttr,R0, *]
  ·rw[if_neg il]at ho
   cases ho;simp only[simprocAttr,R0,b280_2, *];intro ht; subst ht;simp only[simprocAttr,RR,RB];refine ai rfl (ei _ (ei _ (ai rfl ?_)));simp only[simprocAttr,R0, *]
def I280_1(a0:qc)(a1:Int)(a2:Int)(a3:Int)(x1:Int)(x3:L1)(x5:aJ)(dR:Int)(aD:aJ)(e:Env)(h:Heap):Prop:=
 ∃u8 k9:Nat,h=⟨[(0,none),(u8,some (aD.map enc))],k9⟩∧e.length=89∧e.at 1=iI a1∧e.at 2=iI a2∧e.at 3=iI a3∧e.at 4=eQ a0∧e.at 9=iI a0.C.P∧e.at 10=iI x1∧e.at 11=iL x3∧e.at 12=iL x5∧e.at 13=V.sl 1 u8 0 aD.length 1∧e.at 14=iI dR
def P280_1(a0:qc)(a1:Int)(a2:Int)(a3:Int)(x1:Int)(x3:L1)(x5:aJ)(aF:aJ)(x:Ex)(e:Env)(h:Heap):Prop:=
 x= .normal∧∃u8 k9:Nat,h=⟨[(0,none),(u8,some (aF.map enc))],k9⟩∧e.length=89∧e.at 9=iI a0.C.P∧e.at 10=iI x1∧e.at 11=iL x3∧e.at 13=V.sl 1 u8 0 aF.length 1
theorem l280_1(a0:qc)(a1:Int)(a2:Int)(a3:Int)(x1:Int)(x3:L1)(x5:aJ){lo:Int}{s:aJ}{t:aJ}(hF:forR lo (x3.length:Int) (F280_1_B a0 a1 a2 a3 x1 x3 x5) (F280_1_D a0 a1 a2 a3 x1 x3 x5) s=some t){e:Env}{h:Heap}(hI:I280_1 a0 a1 a2 a3 x1 x3 x5 lo s e h):W A c280_1 e h (P280_1 a0 a1 a2 a3 x1 x3 x5 t):=by
 show W A (.block 0 (.loop false b280_1)) e h _;rw[qp];refine qF hF 2 (by obtain⟨_,_,rfl,_⟩:=hI; rfl) (I280_1 a0 a1 a2 a3 x1 x3 x5) hI ?_ ?_
 ·rintro dR aD e h ⟨u8,k9,rfl,h_7⟩ hlt hw o ho
  unfold F280_1_B at ho;obtain⟨bO,us,ho⟩:=bS ho;simp only[simprocAttr,R0,b280_1, *];refine W.mono (l280_2 a0 a1 a2 a3 x1 x3 x5 aD dR u8 us (ei _ (ei _ (ai rfl ?_)))) ?_
  ·simp only[simprocAttr,R0, *]
  rintro _ e _ ⟨rfl,lI,fW,rfl,h_14⟩;obtain⟨cy,tG,ho⟩:=bS ho;have w35:=fun a b c d e=> qA (α:=L1) (n:=aD.length) (m:=1) (ds:=[iL bO]) tG (by first|rfl|simp) (by first|rfl|simp) rfl a b c d e;have w35l:=qO tG;cases ho;simp only[simprocAttr,R0,qR (α:=Int) bO, *];refine ai rfl (ei _ (ei _ (ai rfl ?_)));simp only[simprocAttr,R0,qR (α:=Int) bO, *]
 ·rintro dR aD e h ⟨u8,k9,rfl,h_7⟩ hge t1 ho
  unfold F280_1_D at ho;cases ho;simp only[simprocAttr,R0,b280_1, *];intro ht; subst ht;refine ai rfl (ei _ (ei _ (ai rfl ?_)));simp only[simprocAttr,R0, *]
theorem s280(a0:qc)(a1:Int)(a2:Int)(a3:Int){r:aJ}(hF:F280 a0 a1 a2 a3=some r):ans A 280 [(eF a0),iI a1,iI a2,iI a3]=some (enc r):=by
 refine qB (f:=p280) rfl rfl rfl fun e hl he=>?_;have aA:=he 0 _ rfl;have aB:=he 1 _ rfl;have aU:=he 2 _ rfl;have cX:=he 3 _ rfl;have hl_0:e.length=89:=hl;clear he hl;show W A b280 e ⟨[],0⟩ _;unfold F280 at hF;obtain⟨x1,bD,hF⟩:=bS hF;have w2:=s99 a0.C a2 bD;obtain⟨x3,dN,hF⟩:=bS hF;have w4:=s310 a0 a2 a3 dN;obtain⟨x5,dB,hF⟩:=bS hF;have w6:=s76 a0.C a2 dB;obtain⟨aF,o9,hF⟩:=bS hF;simp only[simprocAttr,R0,b280, *];refine W.mono (l280_1 a0 a1 a2 a3 x1 x3 x5 o9 (ei _ (ei _ (ai rfl ?_)))) ?_
 ·simp only[simprocAttr,R0, *]
 rintro _ e _ ⟨rfl,u8,k9,rfl,h_10⟩;obtain⟨fY,rZ,hF⟩:=bS hF;have w39:=s122 a0.C.P (x3.length:Int) aF rZ;obtain⟨rG,rX,hF⟩:=bS hF;have w41:=s311 fY x3 x1 rX;obtain⟨nS,mS,hF⟩:=bS hF;have w43:=s131 a0.C.P rG mS;cases hF;simp only[simprocAttr,R0,qR (α:=L1) aF, *];exact qh (by simp only[simprocAttr,R0,qg,p280,Rs.ev,qd,qR (α:=L1) aF, *])
def F281_1_B(a0:qc)(a1:Int)(a2:aJ)(aS:Int)(aD:aJ):Option ((aJ)⊕(aJ)):=
 (F76 a0.C a1).bind fun x5=>
(getI a2 aS).bind fun x7=>
(chk (a1 - 1)).bind fun x9=>
(F99 a0.C x9).bind fun eD=>
(F80 a0.C.P x5 x7 eD).bind fun kT=>
(app 24 aD [kT]).bind fun uR=>
some (.inl uR)
def F281_1_D(a0:qc)(a1:Int)(a2:aJ)(aS:Int)(aD:aJ):Option (aJ):=
 some aD
def F281(a0:qc)(a1:Int)(a2:aJ):Option aJ:=
 (forR 0 (a2.length:Int) (F281_1_B a0 a1 a2) (F281_1_D a0 a1 a2) ([]:aJ)).bind fun aF=>
 some aF
def I281_1(a0:qc)(a1:Int)(a2:aJ)(aS:Int)(aD:aJ)(e:Env)(h:Heap):Prop:=
 ∃u2 k3:Nat,h=⟨[(0,none),(u2,some (aD.map enc))],k3⟩∧e.length=37∧e.at 1=iI a1∧e.at 2=iL a2∧e.at 3=eQ a0∧e.at 7=V.sl 1 u2 0 aD.length 1∧e.at 8=iI aS
def P281_1(a0:qc)(a1:Int)(a2:aJ)(aF:aJ)(x:Ex)(e:Env)(h:Heap):Prop:=
 x= .normal∧∃u2 k3:Nat,h=⟨[(0,none),(u2,some (aF.map enc))],k3⟩∧e.length=37∧e.at 7=V.sl 1 u2 0 aF.length 1
theorem l281_1(a0:qc)(a1:Int)(a2:aJ){lo:Int}{s:aJ}{t:aJ}(hF:forR lo (a2.length:Int) (F281_1_B a0 a1 a2) (F281_1_D a0 a1 a2) s=some t){e:Env}{h:Heap}(hI:I281_1 a0 a1 a2 lo s e h):W A c281_1 e h (P281_1 a0 a1 a2 t):=by
 show W A (.block 0 (.loop false b281_1)) e h _;rw[qp];refine qF hF 2 (by obtain⟨_,_,rfl,_⟩:=hI; rfl) (I281_1 a0 a1 a2) hI ?_ ?_
 ·rintro aS aD e h ⟨u2,k3,rfl,h_1⟩ hlt hw o ho
  unfold F281_1_B at ho;obtain⟨x5,dB,ho⟩:=bS ho;have w6:=s76 a0.C a1 dB;obtain⟨x7,dQ,ho⟩:=bS ho;obtain⟨nV,mZ⟩:=qm dQ;obtain⟨x9,fR,ho⟩:=bS ho;have s8:=qD fR;obtain⟨eD,eT,ho⟩:=bS ho;have sH:=s99 a0.C x9 eT;obtain⟨kT,kX,ho⟩:=bS ho;have lc:=s80 a0.C.P x5 x7 eD kX;obtain⟨uR,nP,ho⟩:=bS ho;have sV:=fun a b c d e=> qA (α:=L1) (n:=aD.length) (m:=1) (ds:=[iL kT]) nP (by first|rfl|simp) (by first|rfl|simp) rfl a b c d e;have ce:=qO nP;cases ho;simp only[simprocAttr,R0,b281_1, *];refine ai rfl (ei _ (ei _ (ai rfl ?_)));simp only[simprocAttr,R0, *]
 ·rintro aS aD e h ⟨u2,k3,rfl,h_1⟩ hge t1 ho
  unfold F281_1_D at ho;cases ho;simp only[simprocAttr,R0,b281_1, *];intro ht; subst ht;refine ai rfl (ei _ (ei _ (ai rfl ?_)));simp only[simprocAttr,R0, *]
theorem s281(a0:qc)(a1:Int)(a2:aJ){r:aJ}(hF:F281 a0 a1 a2=some r):ans A 281 [(eF a0),iI a1,iL a2]=some (enc r):=by
 refine qB (f:=p281) rfl rfl rfl fun e hl he=>?_;have aA:=he 0 _ rfl;have aB:=he 1 _ rfl;have aU:=he 2 _ rfl;have hl_0:e.length=37:=hl;clear he hl;show W A b281 e ⟨[],0⟩ _;unfold F281 at hF;obtain⟨aF,pU,hF⟩:=bS hF;simp only[simprocAttr, -Int.reduceNatCast',R0,b281, *];refine W.mono (l281_1 a0 a1 a2 pU (ei _ (ei _ (ai rfl ?_)))) ?_
 ·simp only[simprocAttr, -Int.reduceNatCast',R0, *]
 rintro _ e _ ⟨rfl,u2,k3,rfl,hl_4,rS⟩;have hE:=wA hF; subst hE;simp only[simprocAttr, -Int.reduceNatCast',R0, *];exact qh (by simp only[simprocAttr, -Int.reduceNatCast',R0,qg,p281,Rs.ev,qd,frzs (α:=L1) aF,qR (α:=L1) aF, *])
def F279(a0:qc)(a1:Int)(a2:Int)(a3:Int):Option aJ:=
 (chk (a1 - 1)).bind fun x1=>
 (chk (a3 - 1)).bind fun x2=>
 (F280 a0 x1 a2 x2).bind fun x3=>
 (app 24 ([]:aJ) x3).bind fun l6=>
 (chk (a2+1)).bind fun x7=>
 if x7 < (a0.L.length:Int)then
  (chk (a3+a1)).bind fun x9=>
  (chk (x9 - 1)).bind fun eD=>
  (F280 a0 x1 x7 eD).bind fun bC=>
  (F281 a0 x7 bC).bind fun eI=>
  (app 24 l6 eI).bind fun mB=>
  (F131 a0.C.P mB).bind fun dO=>
  some dO
 else
  (F131 a0.C.P l6).bind fun fG=>
  some fG
theorem s279(a0:qc)(a1:Int)(a2:Int)(a3:Int){r:aJ}(hF:F279 a0 a1 a2 a3=some r):ans A 279 [(eF a0),iI a1,iI a2,iI a3]=some (enc r):=by
 refine qB (f:=p279) rfl rfl rfl fun e hl he=>?_;have aA:=he 0 _ rfl;have aB:=he 1 _ rfl;have aU:=he 2 _ rfl;have cX:=he 3 _ rfl;have hl_0:e.length=46:=hl;clear he hl;have h_0:=ai hl_0 (ai aA (ai aB (ai aU cX)));show W A b279 e ⟨[],0⟩ _;unfold F279 at hF;obtain⟨x1,bD,hF⟩:=bS hF;have sQ:=qD bD;obtain⟨x2,iS,hF⟩:=bS hF;have d7:=qD iS;obtain⟨x3,dN,hF⟩:=bS hF;have w4:ans A 280 [(eF a0),iI x1,iI a2,iI x2]=some (iL x3):=s280 a0 x1 a2 x2 dN;obtain⟨l6,gl6,hF⟩:=bS hF;have w5:=fun a b c d e=> qA (α:=L1) (n:=0) (m:=x3.length) (ds:=List.map enc x3) gl6 (by first|rfl|simp) (by first|rfl|simp) rfl a b c d e;have w5l:=qO gl6;obtain⟨x7,dQ,hF⟩:=bS hF;have tO:=qD dQ;by_cases c8:x7 < (a0.L.length:Int)
 ·rw[if_pos c8]at hF
  obtain⟨x9,fR,hF⟩:=bS hF;have s8:=qD fR;obtain⟨eD,eT,hF⟩:=bS hF;have sP:=qD eT;obtain⟨bC,dU,hF⟩:=bS hF;have pO:ans A 280 [(eF a0),iI x1,iI x7,iI eD]=some (iL bC):=s280 a0 x1 x7 eD dU;obtain⟨eI,fJ,hF⟩:=bS hF;have sV:ans A 281 [(eF a0),iI x7,iL bC]=some (iL eI):=s281 a0 x7 bC fJ;obtain⟨mB,pA,hF⟩:=bS hF;have rA:=fun a b c d e=> qA (α:=L1) (n:=l6.length) (m:=eI.length) (ds:=List.map enc eI) pA (by first|rfl|simp) (by first|rfl|simp) rfl a b c d e;have oj:=qO pA;obtain⟨dO,fI,hF⟩:=bS hF;have pZ:ans A 131 [iI a0.C.P,iL mB]=some (iL dO):=s131 a0.C.P mB fI;cases hF;simp only[simprocAttr,R0,b279,h_0,sQ,d7,w4,w5,tO,eq_true c8,s8,sP,pO,sV,rA,qR (α:=L1) mB,pZ];exact qh (by simp only[simprocAttr,R0,qg,p279,Rs.ev,qd,h_0,sQ,d7,w4,w5,tO,eq_true c8,s8,sP,pO,sV,rA,qR (α:=L1) mB,pZ])
 ·rw[if_neg c8]at hF
  obtain⟨fG,iT,hF⟩:=bS hF;have iw:ans A 131 [iI a0.C.P,iL l6]=some (iL fG):=s131 a0.C.P l6 iT;cases hF;simp only[simprocAttr,R0,b279,h_0,sQ,d7,w4,w5,tO,eq_false c8,qR (α:=L1) l6,iw];exact qh (by simp only[simprocAttr,R0,qg,p279,Rs.ev,qd,h_0,sQ,d7,w4,w5,tO,eq_false c8,qR (α:=L1) l6,iw])
def F297(a0:qc)(a1:Int)(a2:Int)(a3:Int):Option Int:=
 (F280 a0 a1 a2 a3).bind fun x1=>
 (F279 a0 a1 a2 a3).bind fun x3=>
 (chk ((x1.length:Int) - (x3.length:Int))).bind fun x5=>
 some x5
theorem s297(a0:qc)(a1:Int)(a2:Int)(a3:Int){r:Int}(hF:F297 a0 a1 a2 a3=some r):ans A 297 [(eF a0),iI a1,iI a2,iI a3]=some (enc r):=by
 refine qB (f:=p297) rfl rfl rfl fun e hl he=>?_;have aA:=he 0 _ rfl;have aB:=he 1 _ rfl;have aU:=he 2 _ rfl;have cX:=he 3 _ rfl;have hl_0:e.length=22:=hl;clear he hl;show W A b297 e ⟨[],0⟩ _;unfold F297 at hF;obtain⟨x1,bD,hF⟩:=bS hF;have w2:=s280 a0 a1 a2 a3 bD;obtain⟨x3,dN,hF⟩:=bS hF;have w4:=s279 a0 a1 a2 a3 dN;obtain⟨x5,dB,hF⟩:=bS hF;have mg:=qD dB;cases hF;simp only[simprocAttr,R0,b297, *];exact qh (by simp only[simprocAttr,R0,qg,p297,Rs.ev,qd, *])
def F260_2_S(a0:qc)(a1:Int)(aD:aJ)(cZ:Int)(s:L1×Int):Option ((L1×Int)⊕(L1)):=
 match s with
 |(bP,nC)=>
  if nC≤5 then
   (F297 a0 a1 cZ nC).bind fun eD=>
   (app 8 bP [eD]).bind fun pF=>
   (chk (nC+1)).bind fun cW=>
   some (.inl (pF,cW))
  else
   some (.inr bP)
def F260_1_B(a0:qc)(a1:Int)(cZ:Int)(aD:aJ):Option ((aJ)⊕(aJ)):=
 (qY (F260_2_S a0 a1 aD cZ) ([],0)).bind fun bO=>
(app 24 aD [bO]).bind fun mM=>
some (.inl mM)
def F260_1_D(a0:qc)(a1:Int)(cZ:Int)(aD:aJ):Option (aJ):=
 some aD
def F260(a0:qc)(a1:Int):Option aJ:=
 (forR 0 (a0.L.length:Int) (F260_1_B a0 a1) (F260_1_D a0 a1) ([]:aJ)).bind fun aF=>
 some aF
def I260_2(a0:qc)(a1:Int)(aD:aJ)(cZ:Int)(u2:Nat)(s:L1×Int)(e:Env)(h:Heap):Prop:=
 match s with
 |(bP,nC)=>
  ∃u6 k7:Nat,h=⟨[(0,none),(u2,some (aD.map enc)),(u6,some (bP.map enc))],k7⟩∧e.length=35∧e.at 1=iI a1∧e.at 2=eQ a0∧e.at 5=V.sl 1 u2 0 aD.length 1∧e.at 6=iI cZ∧e.at 7=V.sl 2 u6 0 bP.length 1∧e.at 8=iI nC
def P260_2(a0:qc)(a1:Int)(aD:aJ)(cZ:Int)(u2:Nat)(bO:L1)(x:Ex)(e:Env)(h:Heap):Prop:=
 x= .normal∧∃u6 k7:Nat,h=⟨[(0,none),(u2,some (aD.map enc)),(u6,some (bO.map enc))],k7⟩∧e.length=35∧e.at 1=iI a1∧e.at 2=eQ a0∧e.at 5=V.sl 1 u2 0 aD.length 1∧e.at 6=iI cZ∧e.at 7=V.sl 2 u6 0 bO.length 1
theorem l260_2(a0:qc)(a1:Int)(aD:aJ)(cZ:Int)(u2:Nat){s:L1×Int}{t:L1}(hF:qY (F260_2_S a0 a1 aD cZ) s=some t){e:Env}{h:Heap}(hI:I260_2 a0 a1 aD cZ u2 s e h):W A c260_2 e h (P260_2 a0 a1 aD cZ u2 t):=by
 show W A (.block 2 (.loop false b260_2)) e h _;rw[qp];refine zW hF 3 (by rcases s with⟨_,_⟩; obtain⟨_,_,rfl,_⟩:=hI; rfl) (I260_2 a0 a1 aD cZ u2) hI ?_
 ·rintro⟨bP,nC⟩ e h ⟨u6,k7,rfl,h_5⟩ o ho
  unfold F260_2_S at ho;dsimp only at ho;by_cases c9:nC≤5
  ·rw[if_pos c9]at ho
   obtain⟨eD,eT,ho⟩:=bS ho;have sH:=s297 a0 a1 cZ nC eT;obtain⟨pF,tL,ho⟩:=bS ho;have pO:=fun a b c d e=> qA (α:=Int) (n:=bP.length) (m:=1) (ds:=[iI eD]) tL (by first|rfl|simp) (by first|rfl|simp) rfl a b c d e;have ow:=qO tL;obtain⟨cW,dY,ho⟩:=bS ho;have sO:=qD dY;cases ho;simp only[simprocAttr,R0,b260_2, *];refine ai rfl (ei _ (ei _ (ai rfl ?_)));simp only[simprocAttr,R0, *]
  ·rw[if_neg c9]at ho
   cases ho;simp only[simprocAttr,R0,b260_2, *];intro ht; subst ht;simp only[simprocAttr,RR,RB];refine ai rfl (ei _ (ei _ (ai rfl ?_)));simp only[simprocAttr,R0, *]
def I260_1(a0:qc)(a1:Int)(cZ:Int)(aD:aJ)(e:Env)(h:Heap):Prop:=
 ∃u2 k3:Nat,h=⟨[(0,none),(u2,some (aD.map enc))],k3⟩∧e.length=35∧e.at 1=iI a1∧e.at 2=eQ a0∧e.at 5=V.sl 1 u2 0 aD.length 1∧e.at 6=iI cZ
def P260_1(a0:qc)(a1:Int)(aF:aJ)(x:Ex)(e:Env)(h:Heap):Prop:=
 x= .normal∧∃u2 k3:Nat,h=⟨[(0,none),(u2,some (aF.map enc))],k3⟩∧e.length=35∧e.at 5=V.sl 1 u2 0 aF.length 1
theorem l260_1(a0:qc)(a1:Int){lo:Int}{s:aJ}{t:aJ}(hF:forR lo (a0.L.length:Int) (F260_1_B a0 a1) (F260_1_D a0 a1) s=some t){e:Env}{h:Heap}(hI:I260_1 a0 a1 lo s e h):W A c260_1 e h (P260_1 a0 a1 t):=by
 show W A (.block 0 (.loop false b260_1)) e h _;rw[qp];refine qF hF 2 (by obtain⟨_,_,rfl,_⟩:=hI; rfl) (I260_1 a0 a1) hI ?_ ?_
 ·rintro cZ aD e h ⟨u2,k3,rfl,h_1⟩ hlt hw o ho
  unfold F260_1_B at ho;obtain⟨bO,sC,ho⟩:=bS ho;simp only[simprocAttr,R0,b260_1, *];refine W.mono (l260_2 a0 a1 aD cZ u2 sC (ei _ (ei _ (ai rfl ?_)))) ?_
  ·simp only[simprocAttr,R0, *]
  rintro _ e _ ⟨rfl,u6,k7,rfl,h_8⟩;obtain⟨mM,mV,ho⟩:=bS ho;have w16:=fun a b c d e=> qA (α:=L1) (n:=aD.length) (m:=1) (ds:=[iL bO]) mV (by first|rfl|simp) (by first|rfl|simp) rfl a b c d e;have oh:=qO mV;cases ho;simp only[simprocAttr,R0,qR (α:=Int) bO, *];refine ai rfl (ei _ (ei _ (ai rfl ?_)));simp only[simprocAttr,R0,qR (α:=Int) bO, *]
 ·rintro cZ aD e h ⟨u2,k3,rfl,h_1⟩ hge t1 ho
  unfold F260_1_D at ho;cases ho;simp only[simprocAttr,R0,b260_1, *];intro ht; subst ht;refine ai rfl (ei _ (ei _ (ai rfl ?_)));simp only[simprocAttr,R0, *]
theorem s260(a0:qc)(a1:Int){r:aJ}(hF:F260 a0 a1=some r):ans A 260 [(eF a0),iI a1]=some (enc r):=by
 refine qB (f:=p260) rfl rfl rfl fun e hl he=>?_;have aA:=he 0 _ rfl;have aB:=he 1 _ rfl;have hl_0:e.length=35:=hl;clear he hl;show W A b260 e ⟨[],0⟩ _;unfold F260 at hF;obtain⟨aF,sB,hF⟩:=bS hF;simp only[simprocAttr, -Int.reduceNatCast',R0,b260, *];refine W.mono (l260_1 a0 a1 sB (ei _ (ei _ (ai rfl ?_)))) ?_
 ·simp only[simprocAttr, -Int.reduceNatCast',R0, *]
 rintro _ e _ ⟨rfl,u2,k3,rfl,hl_4,h5_4⟩;have hE:=wA hF; subst hE;simp only[simprocAttr, -Int.reduceNatCast',R0, *];exact qh (by simp only[simprocAttr, -Int.reduceNatCast',R0,qg,p260,Rs.ev,qd,frzs (α:=L1) aF,qR (α:=L1) aF, *])
def F251(a0:qe)(a1:Int):Option aJ:=
 (chk (a1+1)).bind fun x1=>
 (F76 a0 x1).bind fun x2=>
 (F131 a0.P x2).bind fun x4=>
 some x4
theorem s251(a0:qe)(a1:Int){r:aJ}(hF:F251 a0 a1=some r):ans A 251 [(eC a0),iI a1]=some (enc r):=by
 refine qB (f:=p251) rfl rfl rfl fun e hl he=>?_;have aA:=he 0 _ rfl;have aB:=he 1 _ rfl;have hl_0:e.length=12:=hl;clear he hl;show W A b251 e ⟨[],0⟩ _;unfold F251 at hF;obtain⟨x1,bD,hF⟩:=bS hF;have sQ:=qD bD;obtain⟨x2,iS,hF⟩:=bS hF;have w3:=s76 a0 x1 iS;obtain⟨x4,fM,hF⟩:=bS hF;have w5:=s131 a0.P x2 fM;cases hF;simp only[simprocAttr,R0,b251, *];exact qh (by simp only[simprocAttr,R0,qg,p251,Rs.ev,qd, *])
def F331(a0:qc)(a1:Int)(a2:Int):Option Int:=
 (F280 a0 13 a1 a2).bind fun x1=>
 (app 24 ([]:aJ) x1).bind fun l4=>
 (F251 a0.C a1).bind fun x5=>
 (app 24 l4 x5).bind fun l8=>
 (F131 a0.C.P l8).bind fun x9=>
 some (x9.length:Int)
theorem s331(a0:qc)(a1:Int)(a2:Int){r:Int}(hF:F331 a0 a1 a2=some r):ans A 331 [(eF a0),iI a1,iI a2]=some (enc r):=by
 refine qB (f:=p331) rfl rfl rfl fun e hl he=>?_;have aA:=he 0 _ rfl;have aB:=he 1 _ rfl;have aU:=he 2 _ rfl;have hl_0:e.length=25:=hl;clear he hl;show W A b331 e ⟨[],0⟩ _;unfold F331 at hF;obtain⟨x1,bD,hF⟩:=bS hF;have w2:ans A 280 [(eF a0),iI 13,iI a1,iI a2]=some (iL x1):=s280 a0 13 a1 a2 bD;obtain⟨l4,gg,hF⟩:=bS hF;have w3:=fun a b c d e=> qA (α:=L1) (n:=0) (m:=x1.length) (ds:=List.map enc x1) gg (by first|rfl|simp) (by first|rfl|simp) rfl a b c d e;have w3l:=qO gg;obtain⟨x5,dB,hF⟩:=bS hF;have w6:ans A 251 [(eC a0.C),iI a1]=some (iL x5):=s251 a0.C a1 dB;obtain⟨l8,gl8,hF⟩:=bS hF;have w7:=fun a b c d e=> qA (α:=L1) (n:=l4.length) (m:=x5.length) (ds:=List.map enc x5) gl8 (by first|rfl|simp) (by first|rfl|simp) rfl a b c d e;have w7l:=qO gl8;obtain⟨x9,fR,hF⟩:=bS hF;have rL:ans A 131 [iI a0.C.P,iL l8]=some (iL x9):=s131 a0.C.P l8 fR;cases hF;simp only[simprocAttr,R0,b331,hl_0,aA,aB,aU,w2,w3,w6,w7,qR (α:=L1) l8,rL];exact qh (by simp only[simprocAttr,R0,qg,p331,Rs.ev,qd,hl_0,aA,aB,aU,w2,w3,w6,w7,qR (α:=L1) l8,rL])
def F325_3_S(x:qc)(tb:aJ)(n:Int)(s:Int×Bool):Option ((Int×Bool)⊕Bool):=match s with
 |(q,same)=> if q≤5 then
  if same=true then(getI tb n).bind fun row=>(getI row q).bind fun v=>(F331 x n q).bind fun a=>(chk (q - 1)).bind fun q'=>(F331 x n q').bind fun b=>(chk (a - b)).bind fun d=>(chk (q+1)).bind fun q2=> some (.inl (q2,decide (v=d)))
  else(chk (q+1)).bind fun q2=> some (.inl (q2,false))
  else some (.inr same)
noncomputable def F325_2_S(x:qc)(tb:aJ)(s:Int×Bool):Option ((Int×Bool)⊕Bool):=match s with
 |(n,same)=> if n < (tb.length:Int)then(qY (F325_3_S x tb n) (0,same)).bind fun same'=>(chk (n+1)).bind fun n'=> some (.inl (n',same'))else some (.inr same)
noncomputable def F325_1_S(x:qc)(r:Int):Option (Int⊕Int):=(F260 x r).bind fun tb=>(qY (F325_2_S x tb) (0,true)).bind fun same=> if same=true then some (.inr r)else(chk (r+1)).bind fun r'=> some (.inl r')
noncomputable def F325(a0:qc):Option (T2 Int Int):=(F38 a0).bind fun b=> if b=true then(qY (F325_1_S a0) 0).bind fun r=> some ⟨r,0⟩else some ⟨0,1⟩
theorem l325_3(a0:qc){tb:aJ}{r n:Int}{s t:Bool}(hF:qY (F325_3_S a0 tb n) (0,s)=some t){e:Env}(hl:e.length=50)(h1:e.at 1=eQ a0)(h4:e.at 4=iI r)(h5:e.at 5=iL tb)(h6:e.at 6=V.bool s)(h7:e.at 7=iI n)(h8:e.at 8=iI 0):
  W A (.block 4 (.loop true b325_3)) e ⟨[(0,none)],1⟩ (fun x e h=> x= .normal∧h=⟨[(0,none)],1⟩∧e.length=50∧e.at 1=eQ a0∧e.at 4=iI r∧e.at 5=iL tb∧e.at 6=V.bool t∧e.at 7=iI n):=by
 rw[qp];refine zW hF _ rfl (fun s e h=> h=⟨[(0,none)],1⟩∧e.length=50∧e.at 1=eQ a0∧e.at 4=iI r∧e.at 5=iL tb∧e.at 6=V.bool s.2∧e.at 7=iI n∧e.at 8=iI s.1) ⟨rfl,hl,h1,h4,h5,h6,h7,h8⟩ ?_;clear hl h1 h4 h5 h6 h7 h8;rintro⟨q,same⟩ e h ⟨rfl,hl_1,aR,aQ,aL,aO,aZ,aP⟩ o ho;simp only at aO aP;unfold F325_3_S at ho;simp only at ho;by_cases c1:q≤5
 ·rw[if_pos c1]at ho
  by_cases c2:same=true
  ·subst c2
   rw[if_pos rfl]at ho;obtain⟨row,gr,ho⟩:=bS ho;obtain⟨ra,rb⟩:=qm gr;obtain⟨v,gv,ho⟩:=bS ho;obtain⟨va,vb⟩:=qm gv;obtain⟨a,ga,ho⟩:=bS ho;have wa:ans A 331 [(eF a0),iI n,iI q]=some (iI a):=s331 a0 n q ga;obtain⟨q',gq,ho⟩:=bS ho;have wq:=qD gq;obtain⟨b,gb,ho⟩:=bS ho;have wb:ans A 331 [(eF a0),iI n,iI q']=some (iI b):=s331 a0 n q' gb;obtain⟨d,gd,ho⟩:=bS ho;have wd:=qD gd;obtain⟨q2,q7,ho⟩:=bS ho;have wq2:=qD q7;have hE:=wA ho; subst hE;simp only[simprocAttr, -Int.reduceNatCast',R0,b325_3,ra,rb,va,vb, *];refine ai rfl ⟨rfl,?_⟩;simp only[simprocAttr, -Int.reduceNatCast',R0, *]
  ·have c3:same=false:=by simpa using c2
   subst c3;rw[if_neg wD]at ho;obtain⟨q2,q7,ho⟩:=bS ho;have wq2:=qD q7;have hE:=wA ho; subst hE;simp only[simprocAttr, -Int.reduceNatCast',R0,b325_3, *];refine ai rfl ⟨rfl,?_⟩;simp only[simprocAttr, -Int.reduceNatCast',R0, *]
 ·rw[if_neg c1]at ho
  have hE:=wA ho; subst hE;simp only[simprocAttr, -Int.reduceNatCast',R0,b325_3, *];intro ht; subst ht;simp only[simprocAttr, -Int.reduceNatCast',R0, *]
theorem l325_2(a0:qc){tb:aJ}{r:Int}{t:Bool}(hF:qY (F325_2_S a0 tb) (0,true)=some t){e:Env}(hl:e.length=50)(h1:e.at 1=eQ a0)(h4:e.at 4=iI r)(h5:e.at 5=iL tb)(h6:e.at 6=V.bool true)(h7:e.at 7=iI 0):
  W A (.block 2 (.loop true b325_2)) e ⟨[(0,none)],1⟩ (fun x e h=> x= .normal∧h=⟨[(0,none)],1⟩∧e.length=50∧e.at 1=eQ a0∧e.at 4=iI r∧e.at 6=V.bool t):=by
 rw[qp];refine zW hF _ rfl (fun s e h=> h=⟨[(0,none)],1⟩∧e.length=50∧e.at 1=eQ a0∧e.at 4=iI r∧e.at 5=iL tb∧e.at 6=V.bool s.2∧e.at 7=iI s.1) ⟨rfl,hl,h1,h4,h5,h6,h7⟩ ?_;clear hl h1 h4 h5 h6 h7;rintro⟨n,same⟩ e h ⟨rfl,hl_1,aR,aQ,aL,aO,aZ⟩ o ho;simp only at aO aZ;unfold F325_2_S at ho;simp only at ho;by_cases c1:n < (tb.length:Int)
 ·rw[if_pos c1]at ho
  obtain⟨s2,gs,ho⟩:=bS ho;obtain⟨n',gn,ho⟩:=bS ho;have wn:=qD gn;have hE:=wA ho; subst hE;simp only[simprocAttr, -Int.reduceNatCast',R0,b325_2, *];refine W.mono (l325_3 a0 gs (r:=r) ?_ ?_ ?_ ?_ ?_ ?_ ?_) ?_
  rotate_right
  ·rintro _ e _ ⟨rfl,rfl,hl_2,nH,lR,l7,mQ,mP⟩
   simp only[simprocAttr, -Int.reduceNatCast',R0, *];refine ai rfl ⟨rfl,?_⟩;simp only[simprocAttr, -Int.reduceNatCast',R0, *]
  all_goals simp only[simprocAttr, -Int.reduceNatCast',R0, *]
 ·rw[if_neg c1]at ho
  have hE:=wA ho; subst hE;simp only[simprocAttr, -Int.reduceNatCast',R0,b325_2, *];intro ht; subst ht;simp only[simprocAttr, -Int.reduceNatCast',R0, *]
theorem s325(a0:qc){r:T2 Int Int}(hF:F325 a0=some r):ans A 325 [(eF a0)]=some (EncR.enc r):=by
 refine qB (f:=p325) rfl rfl rfl fun e hl he=>?_;have aA:=he 0 _ rfl;have hl_0:e.length=50:=hl;clear he hl;have h_0:=ai hl_0 aA;show W A b325 e ⟨[],0⟩ _;unfold F325 at hF;obtain⟨b,gb,hF⟩:=bS hF;have wb:ans A 38 [(eF a0)]=some (V.bool b):=s38 a0 gb;by_cases c1:b=true
 ·subst c1
  rw[if_pos rfl]at hF;obtain⟨t,gt,hF⟩:=bS hF;cases hF;simp only[simprocAttr,R0,b325, *];show W A (.block 0 (.loop true b325_1)) _ _ _;rw[qp];refine zW gt _ rfl (fun s e h=> h=⟨[(0,none)],1⟩∧e.length=50∧e.at 1=eQ a0∧e.at 4=iI s) ?_ ?_
  ·simp only[simprocAttr,R0, *]
  ·clear hl_0 aA
   rintro s e h ⟨rfl,h_1⟩ o ho;unfold F325_1_S at ho;obtain⟨tb,gtb,ho⟩:=bS ho;have wt:ans A 260 [(eF a0),iI s]=some (iL tb):=s260 a0 s gtb;obtain⟨same,gsame,ho⟩:=bS ho;simp only[simprocAttr,R0,b325_1, *];refine W.mono (l325_2 a0 gsame (r:=s) ?_ ?_ ?_ ?_ ?_ ?_) ?_
   rotate_right
   ·rintro _ e _ ⟨rfl,rfl,h_2⟩
    by_cases c2:same=true
    ·subst c2
     rw[if_pos rfl]at ho;cases ho;simp only[simprocAttr,R0, *];intro ht; subst ht;simp only[simprocAttr,RR,RB];exact qh (by simp only[simprocAttr,R0,qg,p325,Rs.ev, *])
    ·have c3:same=false:=by simpa using c2
     subst c3;rw[if_neg wD]at ho;obtain⟨n,gn,ho⟩:=bS ho;have wn:=qD gn;cases ho;simp only[simprocAttr,R0, *];refine ai rfl ⟨rfl,?_⟩;simp only[simprocAttr,R0, *]
   all_goals simp only[simprocAttr,R0, *]
 ·have c3:b=false:=by simpa using c1
  subst c3;rw[if_neg wD]at hF;cases hF;simp only[simprocAttr,R0,b325, *];exact qh (by simp only[simprocAttr,R0,qg,p325,Rs.ev, *])
def F132(a0:Int)(a1:Int):Option L1:=
 (mkL 8 a0 0).bind fun l1=>
 (getI l1 a1).bind fun x3=>
 (setI l1 a1 1).bind fun l5=>
 some l5
theorem t132(a0:Int)(a1:Int){r:L1}(hF:F132 a0 a1=some r):tans A 132 [1] [iI a0,iI a1]=some (enc r):=by
 refine tans_of (f:=p132) rfl rfl rfl fun e hl he=>?_;have aA:=he 0 _ rfl;have aB:=he 1 _ rfl;have hl_0:e.length=12:=hl;clear he hl;show W A b132 e ⟨[],0⟩ _;unfold F132 at hF;obtain⟨l1,tM,hF⟩:=bS hF;obtain⟨tR,tQ,ay,v6,pN⟩:=mkL_w tM;replace pN:(List.replicate (Int.toNat a0) [iI 0]).flatten=List.map enc l1:=pN;obtain⟨x3,dN,hF⟩:=bS hF;obtain⟨aq,v5⟩:=qm dN;have t9:=zi dN;replace t9:a1 < (((Int.toNat a0):Nat):Int):=by first|exact t9|(simp only[v6]at t9 ⊢; exact t9)
 have w4d:List.drop (Int.toNat a1) (l1.map enc)=(iI x3)::List.drop ((Int.toNat a1)+1) (l1.map enc):=xh v5;obtain⟨l5,fw,hF⟩:=bS hF;obtain⟨lH,lG,s9,pE,pY⟩:=xB fw;replace pY:List.take (Int.toNat a1) (l1.map enc)++[iI 1]++List.drop (Int.toNat a1+1) (l1.map enc)=List.map enc l5:=pY;have hE:=wA hF; subst hE;simp only[simprocAttr, -Int.reduceNatCast',R0,b132,hl_0,aA,aB,tR,tQ,ay,pN,aq,v5,t9,w4d,lH,lG,s9,pY];exact tfin_ret (by simp only[simprocAttr, -Int.reduceNatCast',R0,qg,p132,Rs.ev,qd,hl_0,aA,aB,tR,tQ,ay,pN,aq,v5,t9,w4d,lH,lG,s9,pY,frzs (α:=Int) l5,qR (α:=Int) l5,kq (α:=Int) (l:=l5) (n:=(Int.toNat a0)) (by first|rfl|simp only[v6,pE]),v6,pE])
def F124_1_B(a0:Int)(aE:Int)(aN:aJ):Option ((aJ)⊕(aJ)):=
 (F132 a0 aE).bind fun x5=>
(app 24 aN [x5]).bind fun l8=>
some (.inl l8)
def F124_1_D(a0:Int)(aE:Int)(aN:aJ):Option (aJ):=
 some aN
def F124(a0:Int):Option aJ:=
 (forR 0 a0 (F124_1_B a0) (F124_1_D a0) ([]:aJ)).bind fun aM=>
 some aM
theorem d124(a0:Int){r:aJ}(hF:F124 a0=some r):∃v h',res A 124 [iI a0] Heap.empty=some (v,h')∧∃K,Deep.rep h' v r K:=by
 refine xp (f:=p124) rfl rfl rfl fun e hl he=>?_;have aA:=he 0 _ rfl;have hl_0:e.length=18:=hl;clear he hl;show W A b124 e ⟨[],0⟩ _;unfold F124 at hF;obtain⟨aM,uc,hF⟩:=bS hF;have hE:=wA hF; subst hE;simp only[simprocAttr, -Int.reduceNatCast',R1,b124, *];show W A (.block 0 (.loop true b124_1)) _ _ _;rw[qp];refine qF uc _ rfl (fun i l e h=>∃u vs K,h.ents[0]? =some (u,some vs)∧reps h vs l K∧¬K 0∧e.length=18∧e.at 0=iI a0∧e.at 3=V.sl 0 u 0 l.length 1∧e.at 6=iI a0∧e.at 7=iI i) ?_ ?_ ?_
 ·refine⟨0,[],fun _=> False,rfl,fun _ x=> x,fun x=> x,?_⟩
  simp only[simprocAttr, -Int.reduceNatCast',R1, *]
 ·rintro i l e ⟨E,c⟩ ⟨u,vs,K,g1,g2,g3,hl_1,aG,bM,aO,aZ⟩ hlt hw o ho
  unfold F124_1_B at ho;obtain⟨x7,dQ,ho⟩:=bS ho;have w8:=t132 a0 i dQ;obtain⟨dh,pB,ho⟩:=bS ho;obtain⟨q1,q2,rfl⟩:=app_w pB;have hE:=wA ho; subst hE;have hln:=g2.len;have hE0:0 < E.length:=gA g1;have w9:∀x y c',qS 1 24 (.sl 0 u 0 l.length 1) 1 [V.sl E.length c 0 x7.length 1] ⟨E++[x]++[y],c'⟩=_:=fun x y c'=> zj (E:=E++[x]++[y]) (vs:=vs) (by rw[gB (by simp),gB hE0]; exact g1) hln (by simpa using q1) (by simpa using q2);simp only[simprocAttr, -Int.reduceNatCast',R1,b124_1,qK,zm,qw, *];have r1:=xk (h:=⟨E,c⟩) (h1:=⟨E++[(c,some (x7.map enc))],c+1⟩) (h2:=⟨(E++[(c,some (x7.map enc))]++[(c+1,some [V.sl E.length c 0 x7.length 1])]).set 0 (c+1+1,some (vs++[V.sl E.length c 0 x7.length 1])),c+1+1+1⟩) g2
   (zY (l:=x7) (K:=fun k=> k=E.length) (qw _ _) fun k=> vY) (fun k q=> by show E.length≤k; omega) (fun k q=> gB q) (fun k p q=> qL (fun e=> by subst e; exact q.elim g3 (fun q=> by omega)) p) (by simp)
  refine ai rfl ⟨_,_,_,ql (by simp),r1,fun q=> q.elim g3 (fun q=> by omega),?_⟩;simp only[simprocAttr, -Int.reduceNatCast',R1,wM, *]
 ·rintro i l e ⟨E,c⟩ ⟨u,vs,K,g1,g2,g3,hl_1,aG,bM,aO,aZ⟩ hge t1 ho
  unfold F124_1_D at ho;have hE:=wA ho; subst hE;simp only[simprocAttr, -Int.reduceNatCast',R1,b124_1, *];intro ht; subst ht;refine ai (fun _=> trivial) ⟨_,by simp only[simprocAttr, -Int.reduceNatCast',R1,qg,p124,Rs.ev, *],fun k=> k=0∨K k,.inr ⟨0,u,vs,K,rfl,g1,g2,g3,fun k=> vY⟩⟩
theorem s124(a0:Int){r:aJ}(hF:F124 a0=some r):ans A 124 [iI a0]=some (enc r):=ans_of_deep (by decide) (d124 a0 hF)
def F100(a0:qe)(a1:Int):Option aJ:=
 if a1≤0 then
  (F102 a0 a1).bind fun x2=>
  (F124 x2).bind fun x4=>
  some x4
 else
  (F86 a0).bind fun x6=>
  if x6 < a1 then
   (F102 a0 a1).bind fun x9=>
   (F124 x9).bind fun bC=>
   some bC
  else
   (chk (a1 - 1)).bind fun eI=>
   (getI a0.M eI).bind fun cW=>
   (F125 a0.P cW).bind fun iG=>
   some iG
theorem s100(a0:qe)(a1:Int){r:aJ}(hF:F100 a0 a1=some r):ans A 100 [(eC a0),iI a1]=some (enc r):=by
 refine qB (f:=p100) rfl rfl rfl fun e hl he=>?_;have aA:=he 0 _ rfl;have aB:=he 1 _ rfl;have hl_0:e.length=26:=hl;clear he hl;have h_0:=ai hl_0 (ai aA aB);show W A b100 e ⟨[],0⟩ _;unfold F100 at hF;by_cases c1:a1≤0
 ·rw[if_pos c1]at hF
  obtain⟨x2,iS,hF⟩:=bS hF;have w3:=s102 a0 a1 iS;obtain⟨x4,fM,hF⟩:=bS hF;have w5:=s124 x2 fM;cases hF;simp only[simprocAttr,R0,b100, *];exact qh (by simp only[simprocAttr,R0,qg,p100,Rs.ev,qd, *])
 ·rw[if_neg c1]at hF
  obtain⟨x6,nJ,hF⟩:=bS hF;have w7:=s86 a0 nJ;by_cases c8:x6 < a1
  ·rw[if_pos c8]at hF
   obtain⟨x9,fR,hF⟩:=bS hF;have rL:=s102 a0 a1 fR;obtain⟨bC,dU,hF⟩:=bS hF;have pO:=s124 x9 dU;cases hF;simp only[simprocAttr,R0,b100, *];exact qh (by simp only[simprocAttr,R0,qg,p100,Rs.ev,qd, *])
  ·rw[if_neg c8]at hF
   obtain⟨eI,fJ,hF⟩:=bS hF;have rH:=qD fJ;obtain⟨cW,dY,hF⟩:=bS hF;obtain⟨rK,rJ⟩:=qm dY;obtain⟨iG,iU,hF⟩:=bS hF;have bv:=s125 a0.P cW iU;cases hF;simp only[simprocAttr,R0,b100, *];exact qh (by simp only[simprocAttr,R0,qg,p100,Rs.ev,qd, *])
def F168(a0:qe)(a1:Int):Option Int:=
 (F100 a0 a1).bind fun x1=>
 (F186 a0 a1).bind fun x5=>
 (chk ((x1.length:Int) - (x5.length:Int))).bind fun x9=>
 some x9
theorem s168(a0:qe)(a1:Int){r:Int}(hF:F168 a0 a1=some r):ans A 168 [(eC a0),iI a1]=some (enc r):=by
 refine qB (f:=p168) rfl rfl rfl fun e hl he=>?_;have aA:=he 0 _ rfl;have aB:=he 1 _ rfl;have hl_0:e.length=14:=hl;clear he hl;show W A b168 e ⟨[],0⟩ _;unfold F168 at hF;obtain⟨x1,bD,hF⟩:=bS hF;have w2:=s100 a0 a1 bD;have w4:=s89 x1 rfl;obtain⟨x5,dB,hF⟩:=bS hF;have w6:=s186 a0 a1 dB;have w8:=s89 x5 rfl;obtain⟨x9,fR,hF⟩:=bS hF;have s8:=qD fR;cases hF;simp only[simprocAttr,R0,b168, *];exact qh (by simp only[simprocAttr,R0,qg,p168,Rs.ev,qd, *])
def F149_1_B(a0:qe)(dH:Int)(aD:L1):Option ((L1)⊕(L1)):=
 (F168 a0 dH).bind fun x9=>
(app 8 aD [x9]).bind fun sJ=>
some (.inl sJ)
def F149_1_D(a0:qe)(dH:Int)(aD:L1):Option (L1):=
 some aD
def F149(a0:qe):Option (T2 L1 Int):=
 (F42 a0).bind fun x1=>
 if x1=true then
  (forR 0 (a0.D.length:Int) (F149_1_B a0) (F149_1_D a0) ([]:L1)).bind fun aF=>
  some ⟨aF,0⟩
 else
  some ⟨([]:L1),1⟩
def I149_1(a0:qe)(dH:Int)(aD:L1)(e:Env)(h:Heap):Prop:=
 ∃u6 k7:Nat,h=⟨[(0,none),(u6,some (aD.map enc))],k7⟩∧e.length=24∧e.at 1=eP a0∧e.at 4=V.sl 1 u6 0 aD.length 1∧e.at 12=iI (a0.D.length:Int)∧e.at 13=iI dH
def P149_1(a0:qe)(aF:L1)(x:Ex)(e:Env)(h:Heap):Prop:=
 x= .normal∧∃u6 k7:Nat,h=⟨[(0,none),(u6,some (aF.map enc))],k7⟩∧e.length=24∧e.at 4=V.sl 1 u6 0 aF.length 1
theorem l149_1(a0:qe){lo:Int}{s:L1}{t:L1}(hF:forR lo (a0.D.length:Int) (F149_1_B a0) (F149_1_D a0) s=some t){e:Env}{h:Heap}(hI:I149_1 a0 lo s e h):W A c149_1 e h (P149_1 a0 t):=by
 show W A (.block 0 (.loop false b149_1)) e h _;rw[qp];refine qF hF 2 (by obtain⟨_,_,rfl,_⟩:=hI; rfl) (I149_1 a0) hI ?_ ?_
 ·rintro dH aD e h ⟨u6,k7,rfl,h_5⟩ hlt hw o ho
  unfold F149_1_B at ho;obtain⟨x9,fR,ho⟩:=bS ho;have rL:=s168 a0 dH fR;obtain⟨sJ,nQ,ho⟩:=bS ho;have sH:=fun a b c d e=> qA (α:=Int) (n:=aD.length) (m:=1) (ds:=[iI x9]) nQ (by first|rfl|simp) (by first|rfl|simp) rfl a b c d e;have ch:=qO nQ;cases ho;simp only[simprocAttr,R0,b149_1, *];refine ai rfl (ei _ (ei _ (ai rfl ?_)));simp only[simprocAttr,R0, *]
 ·rintro dH aD e h ⟨u6,k7,rfl,h_5⟩ hge t1 ho
  unfold F149_1_D at ho;cases ho;simp only[simprocAttr,R0,b149_1, *];intro ht; subst ht;refine ai rfl (ei _ (ei _ (ai rfl ?_)));simp only[simprocAttr,R0, *]
theorem s149(a0:qe){r:T2 L1 Int}(hF:F149 a0=some r):ans A 149 [(eC a0)]=some (EncR.enc r):=by
 refine qB (f:=p149) rfl rfl rfl fun e hl he=>?_;have aA:=he 0 _ rfl;have hl_0:e.length=24:=hl;clear he hl;have h_0:=ai hl_0 aA;show W A b149 e ⟨[],0⟩ _;unfold F149 at hF;obtain⟨x1,bD,hF⟩:=bS hF;have w2:=s42 a0 bD;cases x1 with
 |true=>
  rw[if_pos rfl]at hF;have w4:=s73 a0.D rfl;obtain⟨aF,sD,hF⟩:=bS hF;simp only[simprocAttr,R0,b149, *];refine W.mono (l149_1 a0 sD (ei _ (ei _ (ai rfl ?_)))) ?_
  ·simp only[simprocAttr,R0, *]
  rintro _ e _ ⟨rfl,u6,k7,rfl,h_8⟩;cases hF;simp only[simprocAttr,R0, *];exact qh (by simp only[simprocAttr,R0,qg,p149,Rs.ev,qd,frzs (α:=Int) aF,qR (α:=Int) aF, *])
 |false=>
  rw[if_neg wD]at hF;cases hF;simp only[simprocAttr,R0,b149, *];exact qh (by simp only[simprocAttr,R0,qg,p149,Rs.ev,qd, *])
def F440(a0:qe):Option (T2 L1 Bool):=
 (F149 a0).bind fun x1=>
 some ⟨x1.a,decide (x1.b=0)⟩
theorem s440(a0:qe){r:T2 L1 Bool}(hF:F440 a0=some r):ans A 440 [(eC a0)]=some (EncR.enc r):=by
 refine qB (f:=p440) rfl rfl rfl fun e hl he=>?_;have aA:=he 0 _ rfl;have hl_0:e.length=14:=hl;clear he hl;show W A b440 e ⟨[],0⟩ _;unfold F440 at hF;obtain⟨x1,bD,hF⟩:=bS hF;have w2:ans A 149 [(eC a0)]=some (V.tup [iL x1.a,iI x1.b]):=s149 a0 bD;cases hF;simp only[simprocAttr,R0,b440, *];exact qh (by simp only[simprocAttr,R0,qg,p440,Rs.ev,qd, *])
def F405_S(code:List U8)(s:Int×Int):Option ((Int×Int)⊕Int):=
 if s.1 < (code.length:Int)then
  if s.1 < 4096 then(getI code s.1).bind fun b=>(chk (s.1+1)).bind fun j=> some (.inl (j,Go.IntKind.wrap .u64 (Go.IntKind.wrap .u64 (Go.IntKind.wrap .u64 (s.2*1099511628211)+Go.IntKind.wrap .u64 b.val)+89)))
  else some (.inr s.2)
 else some (.inr s.2)
noncomputable def F405(code:List U8):Option qo:=(qY (F405_S code) (0,Go.IntKind.wrap .u64 (12731+Go.IntKind.wrap .u64 (code.length:Int)))).bind fun h=> some ⟨code,0,h⟩
theorem d405(code:List U8){r:qo}(hF:F405 code=some r)(E:List (nO))(c:Nat):∃h',res A 405 [iL code] ⟨E,c⟩=some (V.ptr E.length c 0,h')∧h'=⟨E++[(c,some (eS r))],c+1⟩:=by
 refine res_ex (f:=p405) rfl rfl rfl fun e hl he=>?_;have aA:=he 0 _ rfl;have hl_0:e.length=38:=hl;clear he hl;show W A b405 e ⟨E,c⟩ _;unfold F405 at hF;obtain⟨hh,gh,hF⟩:=bS hF;have hE:=wA hF; subst hE;simp only[simprocAttr, -Int.reduceNatCast',R0,b405, *];refine W.mono (Q:=fun x' e h=> x'= .normal∧h=⟨E++[(c,some [iL code,iI 0,V.int .u64 hh])],c+1⟩∧e.length=38∧e.at 3=V.ptr E.length c 0) ?_ ?_
 ·show W A (.block 0 (.loop true b405_1)) _ _ _
  rw[qp];refine zW gh _ rfl (fun s e h=> h=⟨E++[(c,some [iL code,iI 0,V.int .u64 s.2])],c+1⟩∧e.length=38∧e.at 0=iL code∧e.at 3=V.ptr E.length c 0∧e.at 4=iI s.1) ?_ ?_
  ·refine ai rfl ?_
   simp only[simprocAttr, -Int.reduceNatCast',R0, *]
  ·clear hl_0 aA
   rintro⟨i,q⟩ e h ⟨rfl,hl_1,aG,bM,aQ⟩ o ho;simp only at aQ;unfold F405_S at ho;simp only at ho;by_cases c1:i < (code.length:Int)
   ·rw[if_pos c1]at ho
    by_cases c2:i < 4096
    ·rw[if_pos c2]at ho
     obtain⟨b,gb,ho⟩:=bS ho;obtain⟨wb1,wb2⟩:=qm gb;obtain⟨j,gj,ho⟩:=bS ho;have wj:=qD gj;have hE:=wA ho; subst hE;simp only[simprocAttr, -Int.reduceNatCast',R0,b405_1,qw,jJ, *];refine ai rfl (ai rfl ?_);simp only[simprocAttr, -Int.reduceNatCast',R0, *]
    ·rw[if_neg c2]at ho
     have hE:=wA ho; subst hE;simp only[simprocAttr, -Int.reduceNatCast',R0,b405_1, *];intro ht; subst ht;simp only[simprocAttr, -Int.reduceNatCast',R0, *]
   ·rw[if_neg c1]at ho
    have hE:=wA ho; subst hE;simp only[simprocAttr, -Int.reduceNatCast',R0,b405_1, *];intro ht; subst ht;simp only[simprocAttr, -Int.reduceNatCast',R0, *]
 ·rintro _ e h ⟨rfl,rfl,hl_2,pR⟩
  simp only[simprocAttr, -Int.reduceNatCast',R0, *];refine ai (fun _=> trivial) ?_;simp only[simprocAttr, -Int.reduceNatCast',R0,qg,p405,Rs.ev, *]
def F416(src:qo)(a1:Int):Option (T2 Int qo):=
 if a1 < 1 then
  some ⟨0,src⟩
 else
  (chk (Go.IntKind.wrap .u64 (BitVec.ofInt (Go.IntKind.bits .u64) (Int.fdiv (Go.IntKind.wrap .u64 ((Go.IntKind.wrap .u64 (src.hash*6364136223846793005))+1442695040888963407)) (2^min 33 (Go.IntKind.bits .u64)))&&& BitVec.ofInt (Go.IntKind.bits .u64) 16777215).toNat)).bind fun x2=>
  if src.at_ < (src.code.length:Int)then
   (getI src.code src.at_).bind fun x4=>
   (chk x4.val).bind fun x6=>
   (chk (x2+x6)).bind fun x7=>
   (chk (src.at_+1)).bind fun x8=>
   (remI x7 a1).bind fun x9=>
   some ⟨x9,⟨src.code,x8,Go.IntKind.wrap .u64 ((Go.IntKind.wrap .u64 (src.hash*6364136223846793005))+1442695040888963407)⟩⟩
  else
   (remI x2 a1).bind fun bC=>
   some ⟨bC,⟨src.code,src.at_,Go.IntKind.wrap .u64 ((Go.IntKind.wrap .u64 (src.hash*6364136223846793005))+1442695040888963407)⟩⟩
theorem s416(src:qo)(a1:Int){r:T2 Int qo}(hF:F416 src a1=some r):xans A 416 (eS src) [iI a1]=some (iI r.a,(eS r.b)):=by
 refine jX (f:=p416) rfl rfl rfl fun e hl h0 he=>?_;have aA:e.at 0=V.ptr 0 0 0:=h0;have aB:e.at 1=iI a1:=he 0 _ rfl;have hl_0:e.length=58:=hl;clear h0 he hl;show W A b416 e ⟨[(0,some (eS src))],1⟩ _;unfold F416 at hF;by_cases c1:a1 < 1
 ·rw[if_pos c1]at hF
  cases hF;simp only[simprocAttr,R0,b416, *];exact ze (by simp only[simprocAttr,R0,qg,p416,Rs.ev,qd, *])
 ·rw[if_neg c1]at hF
  obtain⟨x2,iS,hF⟩:=bS hF;have d7:=qD iS;by_cases c3:src.at_ < (src.code.length:Int)
  ·rw[if_pos c3]at hF
   obtain⟨x4,fM,hF⟩:=bS hF;obtain⟨sS,sR⟩:=qm fM;obtain⟨x6,nJ,hF⟩:=bS hF;have mf:=qD nJ;obtain⟨x7,dQ,hF⟩:=bS hF;have tO:=qD dQ;obtain⟨x8,oJ,hF⟩:=bS hF;have wx8:=qD oJ;obtain⟨x9,fR,hF⟩:=bS hF;obtain⟨nZ,nY⟩:=rem_w fR;cases hF;simp only[simprocAttr,R0,b416,binV_shr33,binV_and64, *];exact ze (by simp only[simprocAttr,R0,qg,p416,Rs.ev,qd,binV_shr33,binV_and64, *])
  ·rw[if_neg c3]at hF
   obtain⟨bC,dU,hF⟩:=bS hF;obtain⟨kV,kU⟩:=rem_w dU;cases hF;simp only[simprocAttr,R0,b416,binV_shr33,binV_and64, *];exact ze (by simp only[simprocAttr,R0,qg,p416,Rs.ev,qd,binV_shr33,binV_and64, *])
def F412(src:qo)(a1:L1):Option (T2 Int qo):=
 (F416 src (a1.length:Int)).bind fun x1=>
 (getI a1 x1.a).bind fun x3=>
 some ⟨x3,x1.b⟩
theorem s412(src:qo)(a1:L1){r:T2 Int qo}(hF:F412 src a1=some r):xans A 412 (eS src) [iL a1]=some (iI r.a,(eS r.b)):=by
 refine jX (f:=p412) rfl rfl rfl fun e hl h0 he=>?_;have aA:e.at 0=V.ptr 0 0 0:=h0;have aB:e.at 1=iL a1:=he 0 _ rfl;have hl_0:e.length=12:=hl;clear h0 he hl;show W A b412 e ⟨[(0,some (eS src))],1⟩ _;unfold F412 at hF;obtain⟨x1,bD,hF⟩:=bS hF;have w2:xans A 416 (eS src) [iI (a1.length:Int)]=some (iI x1.a,(eS x1.b)):=s416 src (a1.length:Int) bD;obtain⟨x3,dN,hF⟩:=bS hF;obtain⟨aq,v5⟩:=qm dN;cases hF;simp only[simprocAttr,R0,b412,qj, *];exact ze (by simp only[simprocAttr,R0,qg,p412,Rs.ev,qd,qj, *])
def F411(src:qo)(a1:Int):Option (T2 Int qo):=
 (F416 src 14).bind fun x1=>
 if x1.a=0 then
  (chk (a1+1)).bind fun x4=>
  (F412 x1.b [(-1),x4,1099511627776,(-4611686018427387904)]).bind fun x5=>
  some ⟨x5.a,x5.b⟩
 else
  (chk (a1+1)).bind fun x7=>
  (F416 x1.b x7).bind fun x8=>
  some ⟨x8.a,x8.b⟩
theorem s411(src:qo)(a1:Int){r:T2 Int qo}(hF:F411 src a1=some r):xans A 411 (eS src) [iI a1]=some (iI r.a,(eS r.b)):=by
 refine jX (f:=p411) rfl rfl rfl fun e hl h0 he=>?_;have aA:e.at 0=V.ptr 0 0 0:=h0;have aB:e.at 1=iI a1:=he 0 _ rfl;have hl_0:e.length=17:=hl;clear h0 he hl;show W A b411 e ⟨[(0,some (eS src))],1⟩ _;unfold F411 at hF;obtain⟨x1,bD,hF⟩:=bS hF;have w2:xans A 416 (eS src) [iI 14]=some (iI x1.a,(eS x1.b)):=s416 src 14 bD;by_cases c3:x1.a=0
 ·rw[if_pos c3]at hF
  obtain⟨x4,fM,hF⟩:=bS hF;have wx4:=qD fM;obtain⟨x5,dB,hF⟩:=bS hF;have w6:xans A 412 (eS x1.b) [V.isl [iI (-1),iI x4,iI 1099511627776,iI (-4611686018427387904)]]=some (iI x5.a,(eS x5.b)):=s412 x1.b [(-1),x4,1099511627776,(-4611686018427387904)] dB;cases hF;simp only[simprocAttr,R0,b411,qj,qj, *];exact ze (by simp only[simprocAttr,R0,qg,p411,Rs.ev,qd,qj,qj, *])
 ·rw[if_neg c3]at hF
  obtain⟨x7,dQ,hF⟩:=bS hF;have tO:=qD dQ;obtain⟨x8,oJ,hF⟩:=bS hF;have w9:xans A 416 (eS x1.b) [iI x7]=some (iI x8.a,(eS x8.b)):=s416 x1.b x7 oJ;cases hF;simp only[simprocAttr,R0,b411,qj,qj, *];exact ze (by simp only[simprocAttr,R0,qg,p411,Rs.ev,qd,qj,qj, *])
def F421_2_S(p:Int)(k:Int)(s:(qo×L3)×Int):Option (((qo×L3)×Int)⊕(qo×L3)):=
 (getI s.1.2 k).bind fun t=> if s.2 < (t.length:Int)then(getI t s.2).bind fun row=> if 0 < (row.length:Int)then(F416 s.1.1 (row.length:Int)).bind fun j=>(chk (p - 1)).bind fun q=>(F412 j.b [1,q,p]).bind fun v=>(setI row j.a v.a).bind fun row'=>(setI t s.2 row').bind fun t'=>(setI s.1.2 k t').bind fun ms=>(chk (s.2+1)).bind fun i=> some (.inl ((v.b,ms),i))
  else(chk (s.2+1)).bind fun i=> some (.inl (s.1,i))else some (.inr s.1)
def F421_1_S(p:Int)(s:(qo×L3)×Int):Option (((qo×L3)×Int)⊕(qo×L3)):=
 if s.2 < (s.1.2.length:Int)then(qY (F421_2_S p s.2) (s.1,0)).bind fun t=>(chk (s.2+1)).bind fun k=> some (.inl (t,k))else some (.inr s.1)
def F421(src:qo)(x:qe):Option (T2 qe qo):=(F416 src 40).bind fun k=>
 if k.a=0 then(F412 k.b [0,4,11]).bind fun v=> some ⟨⟨v.a,x.D,x.M⟩,v.b⟩
 else if k.a=1 then(F94 x.D).bind fun ds=>(F416 k.b (ds.length:Int)).bind fun i=>(F412 i.b [(-1),9,1]).bind fun v=>(setI ds i.a v.a).bind fun ds'=> some ⟨⟨x.P,ds',x.M⟩,v.b⟩
 else if k.a=2 then(F94 x.D).bind fun ds=>(app 8 ds [0]).bind fun ds'=> some ⟨⟨x.P,ds',x.M⟩,k.b⟩
 else if k.a=3 then(F55 x).bind fun y=>(qY (F421_1_S y.P) ((k.b,y.M),0)).bind fun s=> some ⟨⟨y.P,y.D,s.2⟩,s.1⟩
 else some ⟨x,k.b⟩
set_option maxHeartbeats 8000000 in
theorem s421(src:qo)(x:qe){r:T2 qe qo}(hF:F421 src x=some r):xans A 421 (eS src) [(eC x)]=some ((eC r.a),(eS r.b)):=by
 refine jX (f:=p421) rfl rfl rfl fun e hl h0 he=>?_;have aA:e.at 0=V.ptr 0 0 0:=h0;have aB:e.at 1=(eC x):=he 0 _ rfl;have hl_0:e.length=88:=hl;clear h0 he hl;show W A b421 e ⟨[(0,some (eS src))],1⟩ _;unfold F421 at hF;obtain⟨k,gk,hF⟩:=bS hF;have wk:xans A 416 (eS src) [iI 40]=some (iI k.a,(eS k.b)):=s416 src 40 gk;by_cases c0:k.a=0
 ·rw[if_pos c0]at hF
  obtain⟨v,gv,hF⟩:=bS hF;have wv:xans A 412 (eS k.b) [V.isl [iI 0,iI 4,iI 11]]=some (iI v.a,(eS v.b)):=s412 k.b [0,4,11] gv;have hE:=wA hF; subst hE;simp only[simprocAttr, -Int.reduceNatCast',R0,b421,hl_0,aA,aB,qj,wk,eq_true c0,wv];exact ze (by simp only[simprocAttr, -Int.reduceNatCast',R0,qg,p421,Rs.ev,hl_0,aA,aB])
 rw[if_neg c0]at hF;by_cases c1:k.a=1
 ·rw[if_pos c1]at hF
  obtain⟨ds,gds,hF⟩:=bS hF;have wds:tans A 94 [1] [iL x.D]=some (iL ds):=t94 x.D gds;have wdt:=zm (α:=Int) ds;obtain⟨i,gi,hF⟩:=bS hF;have wi:xans A 416 (eS k.b) [iI (ds.length:Int)]=some (iI i.a,(eS i.b)):=s416 k.b (ds.length:Int) gi;obtain⟨v,gv,hF⟩:=bS hF;have wv:xans A 412 (eS i.b) [V.isl [iI (-1),iI 9,iI 1]]=some (iI v.a,(eS v.b)):=s412 i.b [(-1),9,1] gv;obtain⟨ds',gs,hF⟩:=bS hF;obtain⟨s1,s2,s3,s4,s5⟩:=xB gs;have sY:List.take i.a.toNat (ds.map enc)++[iI v.a]++List.drop (i.a.toNat+1) (ds.map enc)=List.map enc ds':=s5;have hE:=wA hF; subst hE;simp only[simprocAttr, -Int.reduceNatCast',R0,b421,hl_0,aA,aB,qj,wk,eq_false c0,eq_true c1,qK,wds,wdt,wi,wv,s1,s2,s3,sY];exact ze (by simp only[simprocAttr, -Int.reduceNatCast',R0,qg,p421,Rs.ev,hl_0,aA,aB,frzs (α:=Int) ds',qR (α:=Int) ds',kq (α:=Int) (l:=ds') (n:=ds.length) s4,le_of_len (l:=ds') (n:=ds.length) s4,s4])
 rw[if_neg c1]at hF;by_cases c2:k.a=2
 ·rw[if_pos c2]at hF
  obtain⟨ds,gds,hF⟩:=bS hF;have wds:tans A 94 [1] [iL x.D]=some (iL ds):=t94 x.D gds;have wdt:=zm (α:=Int) ds;obtain⟨ds',gs,hF⟩:=bS hF;have rA:=fun ents key uid clk he=> qA (α:=Int) (n:=ds.length) (m:=1) (ds:=[iI 0]) gs rfl rfl rfl ents key uid clk he;have hE:=wA hF; subst hE;simp only[simprocAttr, -Int.reduceNatCast',R0,b421,hl_0,aA,aB,qj,wk,eq_false c0,eq_false c1,eq_true c2,qK,wds,wdt,rA];exact ze (by simp only[simprocAttr, -Int.reduceNatCast',R0,qg,p421,Rs.ev,hl_0,aA,aB,frzs (α:=Int) ds',qR (α:=Int) ds',qd])
 rw[if_neg c2]at hF;by_cases c3:k.a=3
 ·rw[if_pos c3]at hF
  obtain⟨y,gy,hF⟩:=bS hF;have wy:=x55 x gy;obtain⟨⟨s',ms'⟩,gl,hF⟩:=bS hF;have hE:=wA hF; subst hE;obtain⟨m,⟨E1,c1'⟩,t1,t2,t3,t4⟩:=thaw_agg y.P y.D y.M ⟨[(0,some (eS k.b)),(1,some [iI x.P,iL x.D,iL x.M]),(2,some [iI 0,V.nils,V.nils])],3⟩;simp only[vJ,vG,wX,Nat.reduceAdd]at t2 t3 t4;have m0:E1[0]? =some (0,some (eS k.b)):=t4 0 (by decide);have m1:E1[1]? =some (1,some [iI x.P,iL x.D,iL x.M]):=t4 1 (by decide);have m2:E1[2]? =some (2,some [iI 0,V.nils,V.nils]):=t4 2 (by decide);simp only[simprocAttr, -Int.reduceNatCast',R0,b421,hl_0,aA,aB,qj,wk,eq_false c0,eq_false c1,eq_false c2,eq_true c3,qK,wy,t1,m1];refine W.mono (Q:=fun x' e h=> x'= .normal∧h.ents[0]? =some (0,some [V.isl (List.map enc s'.code),iI s'.at_,V.int .u64 s'.hash])∧h.ents[1]? =some (1,some [iI y.P,iL y.D,m])∧h.ents[2]? =some (2,some [iI 0,V.nils,V.nils])∧Deep.rep h m ms' (fun k=> 3≤k∧k < E1.length)∧e.length=88∧e.at 0=V.ptr 0 0 0∧e.at 3=V.ptr 1 1 0∧e.at 4=V.ptr 2 2 0) ?_ ?_
  rotate_left
  ·rintro _ e ⟨E,c⟩ ⟨rfl,g0,g1,g2,g3,hl_1,aG,bM,aQ⟩
   simp only at g0 g1 g2;have hE2:2 < E.length:=gA g2;simp only[simprocAttr, -Int.reduceNatCast',R0,hl_1,aG,bM,aQ,g1,g2];have r2:∀w:nO,(E.set 2 w)[2]? =some w:=fun w=> ql (by omega);have r0:∀w:nO,(E.set 2 w)[0]? =_:=fun w=>(qi (by omega)).trans g0;have r3:∀ (w u:nO) c,frz ⟨(E.set 2 w).set 0 u,c⟩ 15 m=some (V.isl (List.map enc ms')):=fun w u c=> Deep.fz (α:=L3) (Deep.frame g3 fun k q=>(qi (by omega)).trans (qi (by omega))) 8;exact ze (by simp only[simprocAttr, -Int.reduceNatCast',R0,qg,p421,Rs.ev,hl_1,aG,bM,aQ,r2,r0,r3])
  show W A (.block 1 (.loop true b421_1)) _ _ _;rw[qp];refine zW gl _ rfl (fun s e h=> h.ents[0]? =some (0,some [V.isl (List.map enc s.1.1.code),iI s.1.1.at_,V.int .u64 s.1.1.hash])∧h.ents[1]? =some (1,some [iI y.P,iL y.D,m])∧h.ents[2]? =some (2,some [iI 0,V.nils,V.nils])∧Deep.rep h m s.1.2 (fun k=> 3≤k∧k < E1.length)∧e.length=88∧e.at 0=V.ptr 0 0 0∧e.at 3=V.ptr 1 1 0∧e.at 4=V.ptr 2 2 0∧e.at 6=iI s.2) ?_ ?_
  ·refine⟨(qi (by omega)).trans m0,ql (by omega),(qi (by omega)).trans m2,Deep.frame t2 fun k q=> qi (by omega),?_⟩
   simp only[simprocAttr, -Int.reduceNatCast',R0,hl_0,aA,aB]
  ·clear t1 t2 t4 m0 m1 m2 hl_0 aA aB wy wk gl
   rintro⟨⟨s,ms⟩,i⟩ e ⟨E,c⟩ ⟨g0,g1,g2,g3,hl_1,aG,bM,aQ,aO⟩ oo ho;simp only at g0 g1 g2 g3 aO;unfold F421_1_S at ho;simp only at ho;have hlen:=rep_len g3;by_cases q1:i < (ms.length:Int)
   ·rw[if_pos q1]at ho
    obtain⟨⟨s2,ms2⟩,gl,ho⟩:=bS ho;obtain⟨i',gi,ho⟩:=bS ho;have wi:=qD gi;have hE:=wA ho; subst hE;simp only[simprocAttr, -Int.reduceNatCast',R0,b421_1,hl_1,aG,bM,aQ,aO,g1,hlen,eq_true q1];refine W.mono (Q:=fun x' e h=> x'= .normal∧h.ents[0]? =some (0,some (eS s2))∧h.ents[1]? =some (1,some [iI y.P,iL y.D,m])∧h.ents[2]? =some (2,some [iI 0,V.nils,V.nils])∧Deep.rep h m ms2 (fun k=> 3≤k∧k < E1.length)∧e.length=88∧e.at 0=V.ptr 0 0 0∧e.at 3=V.ptr 1 1 0∧e.at 4=V.ptr 2 2 0∧e.at 6=iI i) ?_ ?_
    rotate_left
    ·rintro _ e ⟨E2,c2⟩ ⟨rfl,k0,k1,k2,k3,hl_2,rV,pR,lR,mQ⟩
     simp only at k0 k1 k2;simp only[simprocAttr, -Int.reduceNatCast',R0,hl_2,rV,pR,lR,mQ,wi];refine ai rfl ⟨k0,k1,k2,k3,?_⟩;simp only[simprocAttr, -Int.reduceNatCast',R0,hl_2,rV,pR,lR,mQ,wi]
    show W A (.block 3 (.loop true b421_2)) _ _ _;rw[qp];refine zW gl _ rfl (fun s e h=> h.ents[0]? =some (0,some [V.isl (List.map enc s.1.1.code),iI s.1.1.at_,V.int .u64 s.1.1.hash])∧h.ents[1]? =some (1,some [iI y.P,iL y.D,m])∧h.ents[2]? =some (2,some [iI 0,V.nils,V.nils])∧Deep.rep h m s.1.2 (fun k=> 3≤k∧k < E1.length)∧e.length=88∧e.at 0=V.ptr 0 0 0∧e.at 3=V.ptr 1 1 0∧e.at 4=V.ptr 2 2 0∧e.at 6=iI i∧e.at 7=iI s.2) ?_ ?_
    ·refine⟨g0,g1,g2,g3,?_⟩
     simp only[simprocAttr, -Int.reduceNatCast',R0,hl_1,aG,bM,aQ,aO]
    ·clear g0 g1 g2 g3 hl_1 aG bM aQ aO hlen gl q1
     rintro⟨⟨s,ms⟩,j⟩ e ⟨E,c⟩ ⟨g0,g1,g2,g3,hl_1,aG,bM,aQ,aO,aZ⟩ oo ho;simp only at g0 g1 g2 g3 aZ;unfold F421_2_S at ho;simp only at ho;obtain⟨t,gt,ho⟩:=bS ho;obtain⟨ta,tb⟩:=qm gt;have tc:=zi gt;obtain⟨key,uid,vs,x1,K1,rfl,a1,a2,a3,a4,a5,a6⟩:=rep_focus g3 tb;have o1:=qC a2;simp only at a1;have hlt:=rep_len a4;have hE2:2 < E.length:=gA g2;by_cases q2:j < (t.length:Int)
     ·rw[if_pos q2]at ho
      obtain⟨row,gr,ho⟩:=bS ho;obtain⟨ra,rb⟩:=qm gr;have rc:=zi gr;obtain⟨key2,uid2,nB,x2,K2,rfl,b1,b2,b3,b4,b5,b6⟩:=rep_focus a4 rb;have o2:=qC b2;simp only at b1;have hlr:=rep_len b4;by_cases q3:0 < (row.length:Int)
      ·rw[if_pos q3]at ho
       obtain⟨z,gz,ho⟩:=bS ho;have wz:xans A 416 (eS s) [iI (row.length:Int)]=some (iI z.a,(eS z.b)):=s416 s (row.length:Int) gz;obtain⟨q,gq,ho⟩:=bS ho;have wq:=qD gq;obtain⟨v,gv,ho⟩:=bS ho;have wv:xans A 412 (eS z.b) [V.isl [iI 1,iI q,iI y.P]]=some (iI v.a,(eS v.b)):=s412 z.b [1,q,y.P] gv;obtain⟨row',gs,ho⟩:=bS ho;obtain⟨s1,v7,s3,s4,s5⟩:=xB gs;have sY:List.take z.a.toNat (row.map enc)++[iI v.a]++List.drop (z.a.toNat+1) (row.map enc)=List.map enc row':=s5;obtain⟨t',gt',ho⟩:=bS ho;have st:=xL gt';obtain⟨ms',gm',ho⟩:=bS ho;have sm:=xL gm';obtain⟨j',gj,ho⟩:=bS ho;have wj:=qD gj;have hE:=wA ho; subst hE;rcases row_int b4 with⟨_,rfl,_⟩|⟨cS,iO,rfl,d1,d2⟩
       ·exact absurd q3 (by simp)
       simp only at d1;have uT:=a5 _ (b5 _ ((d2 cS).2 rfl));have hk3E:cS < E.length:=gA d1;have n1:∀u,(E.set 0 u)[1]? =_:=fun u=>(qi (by omega)).trans g1;have n0:∀u:nO,(E.set 0 u)[0]? =some u:=fun u=> ql (by omega);have nk:∀ (u z:nO),((E.set 0 u).set 0 z)[cS]? =_:=fun u z=>(qi (by omega)).trans ((qi (by omega)).trans d1);simp only[simprocAttr, -Int.reduceNatCast',R0,b421_2,hl_1,aG,bM,aQ,aO,aZ,g1,ta,eq_true tc,a1,o1,hlt,eq_true q2,ra,eq_true rc,b1,o2,hlr,eq_true q3,qj,g0,wz,n1,wq,n0,wv,nk,s1,v7,s3,sY,wj];have fr:∀ (u z y:nO) k,3≤k→k≠cS→(((E.set 0 u).set 0 z).set cS y)[k]? =E[k]?:=fun u z y k h1 h3=>(qi h3).trans ((qi (by omega)).trans (qi (by omega)));have sl:row'.length=row.length:=s4;have f1:∀ (u z:nO) c,Deep.rep ⟨((E.set 0 u).set 0 z).set cS (iO,some (List.map enc row')),c⟩ (V.sl cS iO 0 row.length 1) row' K2:=fun u z c=> by rw[←sl]; exact zY (ql (by simp; exact hk3E)) d2
       have f2:∀ (u z:nO) c,Deep.rep ⟨((E.set 0 u).set 0 z).set cS (iO,some (List.map enc row')),c⟩ (V.sl key2 uid2 0 t.length 1) t' K1:=fun u z c=> by rw[st]; exact b6 _ _ (f1 u z c) fun k h1 h2=> fr _ _ _ k (a5 k h1).1 fun e=> h2 ((d2 k).2 e)
       have f3:∀ (u z:nO) c,Deep.rep ⟨((E.set 0 u).set 0 z).set cS (iO,some (List.map enc row')),c⟩ (V.sl key uid 0 ms.length 1) ms' (fun k=> 3≤k∧k < E1.length):=fun u z c=> by rw[sm]; exact a6 _ _ (f2 u z c) fun k h1 h2=> fr _ _ _ k h1.1 fun e=> h2 (b5 k ((d2 k).2 e))
       refine ai rfl ⟨(qi (by omega)).trans (ql (by simp; omega)),(qi (by omega)).trans ((qi (by omega)).trans (n1 _)),(qi (by omega)).trans ((qi (by omega)).trans ((qi (by omega)).trans g2)),f3 _ _ _,?_⟩;simp only[simprocAttr, -Int.reduceNatCast',R0,hl_1,aG,bM,aQ,aO,aZ,wj]
      ·rw[if_neg q3]at ho
       obtain⟨j',gj,ho⟩:=bS ho;have wj:=qD gj;have hE:=wA ho; subst hE;simp only[simprocAttr, -Int.reduceNatCast',R0,b421_2,hl_1,aG,bM,aQ,aO,aZ,g1,ta,eq_true tc,a1,o1,hlt,eq_true q2,ra,eq_true rc,b1,o2,hlr,eq_false q3,wj];refine ai rfl ⟨g0,g1,g2,g3,?_⟩;simp only[simprocAttr, -Int.reduceNatCast',R0,hl_1,aG,bM,aQ,aO,aZ,wj]
     ·rw[if_neg q2]at ho
      have hE:=wA ho; subst hE;simp only[simprocAttr, -Int.reduceNatCast',R0,b421_2,hl_1,aG,bM,aQ,aO,aZ,g1,ta,eq_true tc,a1,o1,hlt,eq_false q2];intro ht; cases ht;refine ai rfl ⟨g0,g1,g2,g3,?_⟩;simp only[simprocAttr, -Int.reduceNatCast',R0,hl_1,aG,bM,aQ,aO,aZ]
   ·rw[if_neg q1]at ho
    have hE:=wA ho; subst hE;simp only[simprocAttr, -Int.reduceNatCast',R0,b421_1,hl_1,aG,bM,aQ,aO,g1,hlen,eq_false q1];intro ht; cases ht;refine ai rfl ⟨g0,g1,g2,g3,?_⟩;simp only[simprocAttr, -Int.reduceNatCast',R0,hl_1,aG,bM,aQ,aO]
 rw[if_neg c3]at hF;have hE:=wA hF; subst hE;simp only[simprocAttr, -Int.reduceNatCast',R0,b421,hl_0,aA,aB,qj,wk,eq_false c0,eq_false c1,eq_false c2,eq_false c3];exact ze (by simp only[simprocAttr, -Int.reduceNatCast',R0,qg,p421,Rs.ev,hl_0,aA,aB])
def F98(a0:qe)(a1:Int):Option aJ:=
 (F99 a0 a1).bind fun x1=>
 (F76 a0 a1).bind fun x3=>
 (F122 a0.P x1 x3).bind fun x5=>
 some x5
theorem d98(a0:qe)(a1:Int){r:aJ}(hF:F98 a0 a1=some r):∃v h',res A 98 [(eC a0),iI a1] Heap.empty=some (v,h')∧∃K,Deep.rep h' v r K:=by
 refine xp (f:=p98) rfl rfl rfl fun e hl he=>?_;have aA:=he 0 _ rfl;have aB:=he 1 _ rfl;have hl_0:e.length=14:=hl;clear he hl;show W A b98 e ⟨[],0⟩ _;unfold F98 at hF;obtain⟨x1,bD,hF⟩:=bS hF;have w1:=s99 a0 a1 bD;obtain⟨x2,iS,hF⟩:=bS hF;have w2:=s76 a0 a1 iS;obtain⟨x3,dN,hF⟩:=bS hF;have w3:tans A 122 [1,1] [iI a0.P,iI x1,iL x2]=some (iL x3):=x122 a0.P x1 x2 dN;have hE:=wA hF; subst hE;obtain⟨v,⟨E1,c1⟩,K,t1,t2,t3,t4,t5⟩:=thawD (α:=aJ) (by decide) x3 ⟨[(0,none)],1⟩;have t1':thaw 16 [1,1] (iL x3) ⟨[(0,none)],1⟩=some (v,⟨E1,c1⟩):=t1;simp only[simprocAttr, -Int.reduceNatCast',R0,b98,qK,t1', *];refine ai (fun _=> trivial) ⟨v,?_,K,t2⟩;simp only[simprocAttr, -Int.reduceNatCast',R0,qg,p98,Rs.ev, *]
theorem x98(a0:qe)(a1:Int){r:aJ}(hF:F98 a0 a1=some r):tans A 98 [1,1] [(eC a0),iI a1]=some (enc r):=ju (α:=aJ) (by decide) (d98 a0 a1 hF)
def F424_1_S(a1:Int)(x1:T2 Int qo)(s:(List U8)×Int×Int×L1×Int):Option (((List U8)×Int×Int×L1×Int)⊕((List U8)×Int×Int×L1)):=
 match s with
 |(bH,bG,bF,aD,nD)=>
  if 0 < nD then
   if x1.a=0 then
    (F416 ⟨bH,bG,bF⟩ a1).bind fun x9=>
    (app 8 aD [x9.a]).bind fun sJ=>
    (chk (nD - 1)).bind fun eI=>
    some (.inl (x9.b.code,x9.b.at_,x9.b.hash,sJ,eI))
   else
    (F416 ⟨bH,bG,bF⟩ 2).bind fun cW=>
    if cW.a=0 then
     (F416 cW.b a1).bind fun dO=>
     (app 8 aD [dO.a]).bind fun uQ=>
     (chk (nD - 1)).bind fun gY=>
     some (.inl (dO.b.code,dO.b.at_,dO.b.hash,uQ,gY))
    else
     (app 8 aD [0]).bind fun rC=>
     (chk (nD - 1)).bind fun x24=>
     some (.inl (cW.b.code,cW.b.at_,cW.b.hash,rC,x24))
  else
   some (.inr (bH,bG,bF,aD))
def F424(src:qo)(a1:Int)(a2:Int):Option (T2 L1 qo):=
 (F416 src 3).bind fun x1=>
 (qY (F424_1_S a1 x1) (x1.b.code,x1.b.at_,x1.b.hash,[],a2)).bind fun i4=> match i4 with
  |(cC,cB,cA,aF)=>
   some ⟨aF,⟨cC,cB,cA⟩⟩
def I424_1(a1:Int)(x1:T2 Int qo)(s:(List U8)×Int×Int×L1×Int)(e:Env)(h:Heap):Prop:=
 match s with
 |(bH,bG,bF,aD,nD)=>
  ∃u4 k5:Nat,h=⟨[(0,some [iL bH,iI bG,V.int .u64 bF]),(u4,some (aD.map enc))],k5⟩∧e.length=33∧e.at 0=V.ptr 0 0 0∧e.at 1=iI a1∧e.at 2=iI nD∧e.at 7=V.sl 1 u4 0 aD.length 1∧e.at 8=iI x1.a
def P424_1(a1:Int)(x1:T2 Int qo)(t:(List U8)×Int×Int×L1)(x:Ex)(e:Env)(h:Heap):Prop:=
 match t with
 |(cC,cB,cA,aF)=>
  x= .normal∧∃u4 k5:Nat,h=⟨[(0,some [iL cC,iI cB,V.int .u64 cA]),(u4,some (aF.map enc))],k5⟩∧e.length=33∧e.at 7=V.sl 1 u4 0 aF.length 1
theorem l424_1(a1:Int)(x1:T2 Int qo){s:(List U8)×Int×Int×L1×Int}{t:(List U8)×Int×Int×L1}(hF:qY (F424_1_S a1 x1) s=some t){e:Env}{h:Heap}(hI:I424_1 a1 x1 s e h):W A c424_1 e h (P424_1 a1 x1 t):=by
 show W A (.block 0 (.loop false b424_1)) e h _;rw[qp];refine zW hF 2 (by rcases s with⟨_,_,_,_,_⟩; obtain⟨_,_,rfl,_⟩:=hI; rfl) (I424_1 a1 x1) hI ?_
 ·rintro⟨bH,bG,bF,aD,nD⟩ e h ⟨u4,k5,rfl,h_3⟩ o ho
  unfold F424_1_S at ho;dsimp only at ho;by_cases c7:0 < nD
  ·rw[if_pos c7]at ho
   by_cases c8:x1.a=0
   ·rw[if_pos c8]at ho
    obtain⟨x9,fR,ho⟩:=bS ho;have rL:xans A 416 [iL bH,iI bG,V.int .u64 bF] [iI a1]=some (iI x9.a,(eS x9.b)):=s416 ⟨bH,bG,bF⟩ a1 fR;obtain⟨sJ,nQ,ho⟩:=bS ho;have sH:=fun a b c d e=> qA (α:=Int) (n:=aD.length) (m:=1) (ds:=[iI x9.a]) nQ (by first|rfl|simp) (by first|rfl|simp) rfl a b c d e;have ch:=qO nQ;obtain⟨eI,fJ,ho⟩:=bS ho;have rH:=qD fJ;cases ho;simp only[simprocAttr,R0,b424_1,qj, *];refine ai rfl (ei _ (ei _ (ai rfl ?_)));simp only[simprocAttr,R0,qj, *]
   ·rw[if_neg c8]at ho
    obtain⟨cW,dY,ho⟩:=bS ho;have rA:xans A 416 [iL bH,iI bG,V.int .u64 bF] [iI 2]=some (iI cW.a,(eS cW.b)):=s416 ⟨bH,bG,bF⟩ 2 dY;by_cases q8:cW.a=0
    ·rw[if_pos q8]at ho
     obtain⟨dO,fI,ho⟩:=bS ho;have pZ:xans A 416 (eS cW.b) [iI a1]=some (iI dO.a,(eS dO.b)):=s416 cW.b a1 fI;obtain⟨uQ,nN,ho⟩:=bS ho;have iz:=fun a b c d e=> qA (α:=Int) (n:=aD.length) (m:=1) (ds:=[iI dO.a]) nN (by first|rfl|simp) (by first|rfl|simp) rfl a b c d e;have bp:=qO nN;obtain⟨gY,iR,ho⟩:=bS ho;have mj:=qD iR;cases ho;simp only[simprocAttr,R0,b424_1,qj,qj, *];refine ai rfl (ei _ (ei _ (ai rfl ?_)));simp only[simprocAttr,R0,qj,qj, *]
    ·rw[if_neg q8]at ho
     obtain⟨rC,lU,ho⟩:=bS ho;have e9:=fun a b c d e=> qA (α:=Int) (n:=aD.length) (m:=1) (ds:=[iI 0]) lU (by first|rfl|simp) (by first|rfl|simp) rfl a b c d e;have bl:=qO lU;obtain⟨x24,lP,ho⟩:=bS ho;have wx24:=qD lP;cases ho;simp only[simprocAttr,R0,b424_1,qj, *];refine ai rfl (ei _ (ei _ (ai rfl ?_)));simp only[simprocAttr,R0,qj, *]
  ·rw[if_neg c7]at ho
   cases ho;simp only[simprocAttr,R0,b424_1, *];intro ht; subst ht;simp only[simprocAttr,RR,RB];refine ai rfl (ei _ (ei _ (ai rfl ?_)));simp only[simprocAttr,R0, *]
theorem s424(src:qo)(a1:Int)(a2:Int){r:T2 L1 qo}(hF:F424 src a1 a2=some r):xans A 424 (eS src) [iI a1,iI a2]=some (iL r.a,(eS r.b)):=by
 refine jX (f:=p424) rfl rfl rfl fun e hl h0 he=>?_;have aA:e.at 0=V.ptr 0 0 0:=h0;have aB:e.at 1=iI a1:=he 0 _ rfl;have aU:e.at 2=iI a2:=he 1 _ rfl;have hl_0:e.length=33:=hl;clear h0 he hl;show W A b424 e ⟨[(0,some (eS src))],1⟩ _;unfold F424 at hF;obtain⟨x1,bD,hF⟩:=bS hF;have w2:xans A 416 (eS src) [iI 3]=some (iI x1.a,(eS x1.b)):=s416 src 3 bD;obtain⟨⟨cC,cB,cA,aF⟩,pS,hF⟩:=bS hF;dsimp only at hF;simp only[simprocAttr,R0,b424,qj, *];refine W.mono (l424_1 a1 x1 pS (ei _ (ei _ (ai rfl ?_)))) ?_
 ·simp only[simprocAttr,R0,qj, *]
 rintro _ e _ ⟨rfl,u4,k5,rfl,h_6⟩;cases hF;simp only[simprocAttr,R0, *];exact ze (by simp only[simprocAttr,R0,qg,p424,Rs.ev,qd,frzs (α:=Int) aF,qR (α:=Int) aF, *])
def F417_2_S(p:Int)(dims:L1)(cyc:aJ)(n:Int)(s:(qo×aJ)×Int):Option (((qo×aJ)×Int)⊕(qo×aJ)):=
 (getI dims n).bind fun d=> if s.2 < d then(F424 s.1.1 p (cyc.length:Int)).bind fun x=>(chk (n - 1)).bind fun m=>(getI dims m).bind fun w=>(F80 p cyc x.a w).bind fun y=>(app 24 s.1.2 [y]).bind fun l=>(chk (s.2+1)).bind fun i=> some (.inl ((x.b,l),i))else some (.inr s.1)
def F417_1_B(p:Int)(dims:L1)(n:Int)(s:qo×qe):Option ((qo×qe)⊕(qo×qe)):=
 (chk (n - 1)).bind fun m=>(F98 s.2 m).bind fun cyc=>(qY (F417_2_S p dims cyc n) ((s.1,[]),0)).bind fun t=>(getI dims n).bind fun d=>(app 8 s.2.D [d]).bind fun ds=>(app 24 s.2.M [t.2]).bind fun ms=> some (.inl (t.1,⟨s.2.P,ds,ms⟩))
def F417_1_D(n:Int)(s:qo×qe):Option (qo×qe):=some s
def F417(src:qo)(a1:Int)(a2:L1):Option (T2 qe qo):=(getI a2 0).bind fun d0=>(forR 1 (a2.length:Int) (F417_1_B a1 a2) F417_1_D (src,⟨a1,[d0],[]⟩)).bind fun s=> some ⟨s.2,s.1⟩
set_option maxHeartbeats 8000000 in
theorem s417(src:qo)(a1:Int)(a2:L1){r:T2 qe qo}(hF:F417 src a1 a2=some r):xans A 417 (eS src) [iI a1,iL a2]=some ((eC r.a),(eS r.b)):=by
 refine jX (f:=p417) rfl rfl rfl fun e hl h0 he=>?_;have aA:e.at 0=V.ptr 0 0 0:=h0;have aB:e.at 1=iI a1:=he 0 _ rfl;have aU:e.at 2=iL a2:=he 1 _ rfl;have hl_0:e.length=70:=hl;clear h0 he hl;show W A b417 e ⟨[(0,some (eS src))],1⟩ _;unfold F417 at hF;obtain⟨d0,gd0,hF⟩:=bS hF;obtain⟨da,db⟩:=qm gd0;replace db:a2[0]? =some d0:=db;obtain⟨s1,gt,hF⟩:=bS hF;have hE:=wA hF; subst hE;simp only[simprocAttr, -Int.reduceNatCast',R0,b417,hl_0,aA,aB,aU,da,db];show W A (.block 0 (.loop true b417_1)) _ _ _;rw[qp];refine qF gt _ rfl (fun n s e h=> h.ents[0]? =some (0,some [V.isl (List.map enc s.1.code),iI s.1.at_,V.int .u64 s.1.hash])∧h.ents[1]? =some (1,some [iI 0,V.nils,V.nils])∧(∃ud um,h.ents[2]? =some (ud,some (List.map enc s.2.D))∧h.ents[3]? =some (um,some (List.map enc s.2.M))∧h.ents[4]? =some (4,some [iI s.2.P,V.sl 2 ud 0 s.2.D.length 1,V.sl 3 um 0 s.2.M.length 1]))∧e.length=70∧e.at 0=V.ptr 0 0 0∧e.at 1=iI a1∧e.at 2=iL a2∧e.at 6=V.ptr 1 1 0∧e.at 7=V.ptr 4 4 0∧e.at 8=iI n) ?_ ?_ ?_
 ·refine⟨rfl,rfl,⟨2,3,rfl,rfl,rfl⟩,?_⟩
  simp only[simprocAttr, -Int.reduceNatCast',R0,hl_0,aA,aB,aU]
 ·clear hl_0 aA aB aU gt
  rintro n ⟨s,x⟩ e ⟨E,c⟩ ⟨g0,g1,⟨ud,um,g2,g3,g4⟩,hl_1,aG,aR,cF,aO,aZ,aP⟩ hlt hw oo ho;simp only at g0 g1 g2 g3 g4;unfold F417_1_B at ho;simp only at ho;obtain⟨m,gm,ho⟩:=bS ho;have wm:=qD gm;obtain⟨cyc,gc,ho⟩:=bS ho;have wc:tans A 98 [1,1] [(eC x),iI m]=some (iL cyc):=x98 x m gc;obtain⟨⟨s',rows⟩,gl,ho⟩:=bS ho;obtain⟨d,gd,ho⟩:=bS ho;obtain⟨dda,ddb⟩:=qm gd;obtain⟨ds,gds,ho⟩:=bS ho;obtain⟨ms,gms,ho⟩:=bS ho;have hE:=wA ho; subst hE;have hE4:4 < E.length:=gA g4;have z2:frz ⟨E,c⟩ 15 (V.sl 2 ud 0 x.D.length 1)=some (iL x.D):=frzE (α:=Int) g2 10;have z3:frz ⟨E,c⟩ 15 (V.sl 3 um 0 x.M.length 1)=some (iL x.M):=frzE (α:=aJ) g3 10;obtain⟨v,⟨E1,c1⟩,K,t1,t2,t3,t4,t5⟩:=thawD (α:=aJ) (by decide) cyc ⟨E,c⟩;have t1':thaw 16 [1,1] (iL cyc) ⟨E,c⟩=some (v,⟨E1,c1⟩):=t1;have bw:bare 16 [1,1] (iL cyc)=true:=bareD (α:=aJ) (by decide) cyc;simp only at t3 t4 t5;simp only[simprocAttr, -Int.reduceNatCast',R0,b417_1,hl_1,aG,aR,cF,aO,aZ,aP,eq_true hlt,hw,wm,g4,z2,z3,qK,wc,bw,Bool.or_true,t1',qw];refine W.mono (Q:=fun x' e h=> x'= .normal∧∃uq,h.ents[0]? =some (0,some [V.isl (List.map enc s'.code),iI s'.at_,V.int .u64 s'.hash])∧h.ents[1]? =E[1]?∧h.ents[2]? =E[2]?∧h.ents[3]? =E[3]?∧h.ents[4]? =E[4]?∧h.ents[E1.length]? =some (uq,some (rows.map enc))∧e.length=70∧e.at 0=V.ptr 0 0 0∧e.at 1=iI a1∧e.at 2=iL a2∧e.at 6=V.ptr 1 1 0∧e.at 7=V.ptr 4 4 0∧e.at 8=iI n∧e.at 10=V.sl E1.length uq 0 rows.length 1) ?_ ?_
  rotate_left
  ·rintro _ e ⟨E2,c2⟩ ⟨rfl,uq,q0,q1,q2,q3,q4,q6,hl_2,rV,nH,rT,mQ,mP,rR,nI⟩
   simp only at q0 q1 q2 q3 q4 q6;rw[g1]at q1; rw[g2]at q2; rw[g3]at q3; rw[g4]at q4;have hE2:E1.length < E2.length:=gA q6;have n4:∀y z,((E2++[y]).set 2 z)[4]? =_:=fun y z=>(qL (by omega) (by omega)).trans q4;have p1:∀y c,qS 1 8 (.sl 2 ud 0 x.D.length 1) 1 [iI d] ⟨E2++[y],c⟩=_:=fun y c=> appE (α:=Int) (a:=d) (l2:=ds) ((gB (by omega)).trans q2) gds;have b4:∀ (y z w:nO),(((E2++[y]).set 2 z).set 4 w)[4]? =some w:=fun y z w=> ql (by simp; omega);have tq:∀y z w c,take 16 [] (.sl E1.length uq 0 rows.length 1) ⟨((E2++[y]).set 2 z).set 4 w,c⟩=_:=fun y z w c=> takeE (α:=L1) ((qi (by omega)).trans ((qL (by omega) (by omega)).trans q6)) 11;have p2:∀y z w u y' c,qS 1 24 (.sl 3 um 0 x.M.length 1) 1 [iL rows] ⟨(((E2++[y]).set 2 z).set 4 w).set E1.length u++[y'],c⟩=_:=fun y z w u y' c=> appE (α:=aJ) (a:=rows) (l2:=ms) ((gB (by simp; omega)).trans ((qi (by omega)).trans ((qi (by omega)).trans ((qL (by omega) (by omega)).trans q3)))) gms;have c4:∀ (y z w u y' z':nO),(((((E2++[y]).set 2 z).set 4 w).set E1.length u++[y']).set 3 z')[4]? =some w:=fun y z w u y' z'=>(qi (by omega)).trans ((gB (by simp; omega)).trans ((qi (by omega)).trans (b4 y z w)));simp only[simprocAttr, -Int.reduceNatCast',R0,hl_2,rV,nH,rT,mQ,mP,rR,nI,dda,ddb,q4,n4,p1,b4,tq,p2,c4,qw,hw];refine ai rfl ⟨?_,?_,⟨c2+1,c2+1+1+1,?_,?_,?_⟩,?_⟩
   ·exact(qi (by omega)).trans ((qi (by omega)).trans ((gB (by simp <;> omega)).trans ((qi (by omega)).trans ((qi (by omega)).trans ((qL (by omega) (by omega)).trans q0)))))
   ·exact(qi (by omega)).trans ((qi (by omega)).trans ((gB (by simp <;> omega)).trans ((qi (by omega)).trans ((qi (by omega)).trans ((qL (by omega) (by omega)).trans q1)))))
   ·exact(qi (by omega)).trans ((qi (by omega)).trans ((gB (by simp <;> omega)).trans ((qi (by omega)).trans ((qi (by omega)).trans (ql (by simp; omega))))))
   ·exact(qi (by omega)).trans (ql (by simp; omega))
   ·exact ql (by simp; omega)
   simp only[simprocAttr, -Int.reduceNatCast',R0,hl_2,rV,nH,rT,mQ,mP,rR,nI,hw]
  show W A (.block 2 (.loop true b417_2)) _ _ _;rw[qp];refine zW gl _ rfl (fun s e h=>∃uq,h.ents[0]? =some (0,some [V.isl (List.map enc s.1.1.code),iI s.1.1.at_,V.int .u64 s.1.1.hash])∧h.ents[1]? =E[1]?∧h.ents[2]? =E[2]?∧h.ents[3]? =E[3]?∧h.ents[4]? =E[4]?∧Deep.rep h v cyc K∧h.ents[E1.length]? =some (uq,some (List.map enc s.1.2))∧e.length=70∧e.at 0=V.ptr 0 0 0∧e.at 1=iI a1∧e.at 2=iL a2∧e.at 6=V.ptr 1 1 0∧e.at 7=V.ptr 4 4 0∧e.at 8=iI n∧e.at 9=v∧e.at 10=V.sl E1.length uq 0 s.1.2.length 1∧e.at 11=iI s.2) ?_ ?_
  ·have o:∀k,k < E.length→(E1++[(c1,some [])])[k]? =E[k]?:=fun k hk=>(gB (by omega)).trans (t5 k hk)
   refine⟨c1,(o 0 (by omega)).trans g0,o 1 (by omega),o 2 (by omega),o 3 (by omega),o 4 hE4,Deep.frame t2 fun k q=> gB (t3 k q).2,qw _ _,?_⟩;simp only[simprocAttr, -Int.reduceNatCast',R0,hl_1,aG,aR,cF,aO,aZ,aP]
  ·clear g0 g2 g3 g4 z2 z3 hl_1 aG aR cF aO aZ aP t1 t1' t2 t5 bw wc gl
   rintro⟨⟨s,rows⟩,i⟩ e ⟨E2,c2⟩ ⟨uq,g0,q1,q2,q3,q4,q5,q6,hl_1,aG,aR,cF,aO,aZ,aP,bZ,dS,aT⟩ oo ho;simp only at g0 q1 q2 q3 q4 q6 dS aT;unfold F417_2_S at ho;simp only at ho;obtain⟨d,gd,ho⟩:=bS ho;obtain⟨dda,ddb⟩:=qm gd;have hE2:E1.length < E2.length:=gA q6;by_cases c1:i < d
   ·rw[if_pos c1]at ho
    obtain⟨z,gz,ho⟩:=bS ho;have wz:xans A 424 (eS s) [iI a1,iI (cyc.length:Int)]=some (iL z.a,(eS z.b)):=s424 s a1 (cyc.length:Int) gz;obtain⟨m,gm,ho⟩:=bS ho;have wm:=qD gm;obtain⟨w,gw,ho⟩:=bS ho;obtain⟨wwa,wwb⟩:=qm gw;obtain⟨y,gy,ho⟩:=bS ho;have wy:tans A 80 [1] [iI a1,iL cyc,iL z.a,iI w]=some (iL y):=t80 a1 cyc z.a w gy;obtain⟨l,gl,ho⟩:=bS ho;obtain⟨i',gi,ho⟩:=bS ho;have wi:=qD gi;have hE:=wA ho; subst hE;have hlen:=rep_len q5;have zf:∀u c,frz ⟨E2.set 0 u,c⟩ 16 v=some (iL cyc):=fun u c=> Deep.fz (α:=aJ) (K:=K) (Deep.frame q5 fun k q=> qi (by have:=t3 k q; omega)) 10;have tq:∀u c,take 16 [] (.sl (E2.set 0 u).length c2 0 y.length 1) ⟨E2.set 0 u++[(c2,some (y.map enc))],c⟩=_:=fun u c=> takeE (α:=Int) (qw _ _) 11;have p1:∀u a b c,qS 1 24 (.sl E1.length uq 0 rows.length 1) 1 [iL y] ⟨E2.set 0 u++[a]++[b],c⟩=_:=fun u a b c=> appE (α:=L1) (a:=y) (l2:=l) (by rw[wO]; exact(gB (by simp; omega)).trans ((qi (by omega)).trans q6)) gl;simp only[simprocAttr, -Int.reduceNatCast',R0,b417_2,hl_1,aG,aR,cF,aO,aZ,aP,bZ,dS,aT,dda,ddb,eq_true c1,hlen,qj,wz,g0,wm,wwa,wwb,qK,zf,wy,bare_one (α:=Int) y,Bool.or_true,zm,tq,jJ,qw,p1,wi];have o:∀u a b z k,k < E2.length→k≠E1.length→((E2.set 0 u++[a]++[b]).set E1.length z)[k]? =(E2.set 0 u)[k]?:=fun u a b z k h1 h2=>(qi h2).trans (by rw[wO]; exact gB (by simp; omega));refine ai rfl ⟨_,(o _ _ _ _ 0 (by omega) (by omega)).trans (ql (by omega)),(o _ _ _ _ 1 (by omega) (by omega)).trans ((qi (by omega)).trans q1),(o _ _ _ _ 2 (by omega) (by omega)).trans ((qi (by omega)).trans q2),(o _ _ _ _ 3 (by omega) (by omega)).trans ((qi (by omega)).trans q3),(o _ _ _ _ 4 (by omega) (by omega)).trans ((qi (by omega)).trans q4),Deep.frame q5 fun k q=>(o _ _ _ _ k (by have:=t3 k q; omega) (by have:=t3 k q; omega)).trans (qi (by have:=t3 k q; omega)),ql (by simp; omega),?_⟩;simp only[simprocAttr, -Int.reduceNatCast',R0,hl_1,aG,aR,cF,aO,aZ,aP,bZ,dS,aT,wi]
   ·rw[if_neg c1]at ho
    have hE:=wA ho; subst hE;simp only[simprocAttr, -Int.reduceNatCast',R0,b417_2,hl_1,aG,aR,cF,aO,aZ,aP,bZ,dS,aT,dda,ddb,eq_false c1];intro ht; cases ht;refine ai rfl ⟨uq,g0,q1,q2,q3,q4,q6,?_⟩;simp only[simprocAttr, -Int.reduceNatCast',R0,hl_1,aG,aR,cF,aO,aZ,aP,bZ,dS,aT]
 ·clear hl_0 aA aB aU
  rintro n ⟨s,x⟩ e ⟨E,c⟩ ⟨g0,g1,⟨ud,um,g2,g3,g4⟩,hl_1,aG,aR,cF,aO,aZ,aP⟩ hge t1 ho;simp only at g0 g1 g2 g3 g4;unfold F417_1_D at ho;have hE:=wA ho; subst hE;have hE4:4 < E.length:=gA g4;simp only[simprocAttr, -Int.reduceNatCast',R0,b417_1,hl_1,aG,aR,cF,aO,aZ,aP,eq_false hge,g4,g1];intro ht; subst ht;have r1:∀w:nO,(E.set 1 w)[1]? =some w:=fun w=> ql (by omega);have r0:∀w:nO,(E.set 1 w)[0]? =_:=fun w=>(qi (by omega)).trans g0;have r2:∀ (w u:nO) c,frz ⟨(E.set 1 w).set 0 u,c⟩ 15 (V.sl 2 ud 0 x.D.length 1)=some (iL x.D):=fun w u c=> frzE (α:=Int) ((qi (by omega)).trans ((qi (by omega)).trans g2)) 10;have r3:∀ (w u:nO) c,frz ⟨(E.set 1 w).set 0 u,c⟩ 15 (V.sl 3 um 0 x.M.length 1)=some (iL x.M):=fun w u c=> frzE (α:=aJ) ((qi (by omega)).trans ((qi (by omega)).trans g3)) 10;exact ze (by simp only[simprocAttr, -Int.reduceNatCast',R0,qg,p417,Rs.ev,hl_1,aO,r1,r0,r2,r3])
def F423(src:qo):Option (T2 Int qo):=
 (F412 src [2,2,3,3,5,7]).bind fun x1=>
 some ⟨x1.a,x1.b⟩
theorem s423(src:qo){r:T2 Int qo}(hF:F423 src=some r):xans A 423 (eS src) []=some (iI r.a,(eS r.b)):=by
 refine jX (f:=p423) rfl rfl rfl fun e hl h0 he=>?_;have aA:e.at 0=V.ptr 0 0 0:=h0;have hl_0:e.length=6:=hl;clear h0 he hl;show W A b423 e ⟨[(0,some (eS src))],1⟩ _;unfold F423 at hF;obtain⟨x1,bD,hF⟩:=bS hF;have w2:xans A 412 (eS src) [V.isl [iI 2,iI 2,iI 3,iI 3,iI 5,iI 7]]=some (iI x1.a,(eS x1.b)):=s412 src [2,2,3,3,5,7] bD;cases hF;simp only[simprocAttr,R0,b423,qj, *];exact ze (by simp only[simprocAttr,R0,qg,p423,Rs.ev,qd,qj, *])
def F415_1_S(x1:T2 Int qo)(s:(List U8)×Int×Int×L1×Int):Option (((List U8)×Int×Int×L1×Int)⊕((List U8)×Int×Int×L1)):=
 match s with
 |(bH,bG,bF,bA,bX)=>
  if 0 < bX then
   (F416 ⟨bH,bG,bF⟩ 9).bind fun eI=>
   (F412 eI.b [0,1,1,2,2,3,4,eI.a]).bind fun fV=>
   (app 8 bA [fV.a]).bind fun de=>
   (chk (bX - 1)).bind fun fG=>
   some (.inl (fV.b.code,fV.b.at_,fV.b.hash,de,fG))
  else
   some (.inr (bH,bG,bF,bA))
def F415(src:qo):Option (T2 qe qo):=
 (F423 src).bind fun x1=>
 (F416 x1.b 6).bind fun x3=>
 (F412 x3.b [0,1,2,2,3,x3.a]).bind fun x5=>
 (chk (1+x5.a)).bind fun x7=>
 (qY (F415_1_S x1) (x5.b.code,x5.b.at_,x5.b.hash,[],x7)).bind fun cj=> match cj with
  |(cC,cB,cA,cD)=>
   (F417 ⟨cC,cB,cA⟩ x1.a cD).bind fun gY=>
   some ⟨gY.a,gY.b⟩
def I415_1(x1:T2 Int qo)(s:(List U8)×Int×Int×L1×Int)(e:Env)(h:Heap):Prop:=
 match s with
 |(bH,bG,bF,bA,bX)=>
  ∃u9 j5:Nat,h=⟨[(0,some [iL bH,iI bG,V.int .u64 bF]),(1,some [iI 0,V.nils,V.nils]),(u9,some (bA.map enc))],j5⟩∧e.length=31∧e.at 0=V.ptr 0 0 0∧e.at 2=V.ptr 1 1 0∧e.at 3=iI x1.a∧e.at 4=V.sl 2 u9 0 bA.length 1∧e.at 5=iI bX
def P415_1(x1:T2 Int qo)(t:(List U8)×Int×Int×L1)(x:Ex)(e:Env)(h:Heap):Prop:=
 match t with
 |(cC,cB,cA,cD)=>
  x= .normal∧∃u9 j5:Nat,h=⟨[(0,some [iL cC,iI cB,V.int .u64 cA]),(1,some [iI 0,V.nils,V.nils]),(u9,some (cD.map enc))],j5⟩∧e.length=31∧e.at 0=V.ptr 0 0 0∧e.at 2=V.ptr 1 1 0∧e.at 3=iI x1.a∧e.at 4=V.sl 2 u9 0 cD.length 1
theorem l415_1(x1:T2 Int qo){s:(List U8)×Int×Int×L1×Int}{t:(List U8)×Int×Int×L1}(hF:qY (F415_1_S x1) s=some t){e:Env}{h:Heap}(hI:I415_1 x1 s e h):W A c415_1 e h (P415_1 x1 t):=by
 show W A (.block 0 (.loop false b415_1)) e h _;rw[qp];refine zW hF 3 (by rcases s with⟨_,_,_,_,_⟩; obtain⟨_,_,rfl,_⟩:=hI; rfl) (I415_1 x1) hI ?_
 ·rintro⟨bH,bG,bF,bA,bX⟩ e h ⟨u9,j5,rfl,h_8⟩ o ho
  unfold F415_1_S at ho;dsimp only at ho;by_cases c12:0 < bX
  ·rw[if_pos c12]at ho
   obtain⟨eI,fJ,ho⟩:=bS ho;have sV:xans A 416 [iL bH,iI bG,V.int .u64 bF] [iI 9]=some (iI eI.a,(eS eI.b)):=s416 ⟨bH,bG,bF⟩ 9 fJ;obtain⟨fV,iN,ho⟩:=bS ho;have w16:xans A 412 (eS eI.b) [V.isl [iI 0,iI 1,iI 1,iI 2,iI 2,iI 3,iI 4,iI eI.a]]=some (iI fV.a,(eS fV.b)):=s412 eI.b [0,1,1,2,2,3,4,eI.a] iN;obtain⟨de,sE,ho⟩:=bS ho;have bv:=fun a b c d e=> qA (α:=Int) (n:=bA.length) (m:=1) (ds:=[iI fV.a]) sE (by first|rfl|simp) (by first|rfl|simp) rfl a b c d e;have od:=qO sE;obtain⟨fG,iT,ho⟩:=bS ho;have ag:=qD iT;cases ho;simp only[simprocAttr,R0,b415_1,qj,qj, *];refine ai rfl (ei _ (ei _ (ai rfl ?_)));simp only[simprocAttr,R0,qj,qj, *]
  ·rw[if_neg c12]at ho
   cases ho;simp only[simprocAttr,R0,b415_1, *];intro ht; subst ht;simp only[simprocAttr,RR,RB];refine ai rfl (ei _ (ei _ (ai rfl ?_)));simp only[simprocAttr,R0, *]
theorem s415(src:qo){r:T2 qe qo}(hF:F415 src=some r):xans A 415 (eS src) []=some ((eC r.a),(eS r.b)):=by
 refine jX (f:=p415) rfl rfl rfl fun e hl h0 he=>?_;have aA:e.at 0=V.ptr 0 0 0:=h0;have hl_0:e.length=31:=hl;clear h0 he hl;show W A b415 e ⟨[(0,some (eS src))],1⟩ _;unfold F415 at hF;obtain⟨x1,bD,hF⟩:=bS hF;have w2:xans A 423 (eS src) []=some (iI x1.a,(eS x1.b)):=s423 src bD;obtain⟨x3,dN,hF⟩:=bS hF;have w4:xans A 416 (eS x1.b) [iI 6]=some (iI x3.a,(eS x3.b)):=s416 x1.b 6 dN;obtain⟨x5,dB,hF⟩:=bS hF;have w6:xans A 412 (eS x3.b) [V.isl [iI 0,iI 1,iI 2,iI 2,iI 3,iI x3.a]]=some (iI x5.a,(eS x5.b)):=s412 x3.b [0,1,2,2,3,x3.a] dB;obtain⟨x7,dQ,hF⟩:=bS hF;have tO:=qD dQ;obtain⟨⟨cC,cB,cA,cD⟩,pT,hF⟩:=bS hF;dsimp only at hF;simp only[simprocAttr,R0,b415,qj,qj,qj, *];refine W.mono (l415_1 x1 pT (ei _ (ei _ (ai rfl ?_)))) ?_
 ·simp only[simprocAttr,R0,qj,qj,qj, *]
 rintro _ e _ ⟨rfl,u9,j5,rfl,h_11⟩;obtain⟨gY,iR,hF⟩:=bS hF;have e9:xans A 417 [iL cC,iI cB,V.int .u64 cA] [iI x1.a,iL cD]=some ((eC gY.a),(eS gY.b)):=s417 ⟨cC,cB,cA⟩ x1.a cD iR;cases hF;simp only[simprocAttr,R0,qR (α:=Int) cD,qj, *];exact ze (by simp only[simprocAttr,R0,qg,p415,Rs.ev,qd,qR (α:=Int) cD,qj, *])
end
end Rv
