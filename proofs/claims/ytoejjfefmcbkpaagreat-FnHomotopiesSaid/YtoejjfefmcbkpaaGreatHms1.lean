/- What the abstract code answers: typed functions, part 2. -/
import Derived.Test.YtoejjfefmcbkpaaGreatHms0
namespace Rv
open Enc (enc)
set_option linter.unusedVariables false
set_option linter.unusedSimpArgs false
set_option maxRecDepth 100000
noncomputable section
def F119_2_B(a0:Int)(a2:L1)(a3:L2)(cA:Int)(x7:Int)(x9:L1)(eH:Int)(cT:L1):Option ((L1)⊕(L1)):=
 (getI x9 eH).bind fun cQ=>
(getI cT eH).bind fun dU=>
(chk (x7*cQ)).bind fun eA=>
(chk (dU+eA)).bind fun dN=>
(remI dN a0).bind fun dA=>
(setI cT eH dA).bind fun i6=>
some (.inl i6)
def F119_2_D(a0:Int)(a2:L1)(a3:L2)(cA:Int)(x7:Int)(x9:L1)(eH:Int)(cT:L1):Option (L1):=
 some cT
def F119_1_B(a0:Int)(a2:L1)(a3:L2)(cA:Int)(aC:L1):Option ((L1)⊕(L1)):=
 (getI a2 cA).bind fun x7=>
(getI a3 cA).bind fun x9=>
(forR 0 (x9.length:Int) (F119_2_B a0 a2 a3 cA x7 x9) (F119_2_D a0 a2 a3 cA x7 x9) aC).bind fun eO=>
some (.inl eO)
def F119_1_D(a0:Int)(a2:L1)(a3:L2)(cA:Int)(aC:L1):Option (L1):=
 some aC
def F119(a0:Int)(a1:Int)(a2:L1)(a3:L2):Option L1:=
 (mkL 8 a1 0).bind fun l1=>
 (forR 0 (a2.length:Int) (F119_1_B a0 a2 a3) (F119_1_D a0 a2 a3) l1).bind fun aD=>
 some aD
def I119_2(a0:Int)(a2:L1)(a3:L2)(cA:Int)(x7:Int)(x9:L1)(eH:Int)(cT:L1)(e:Env)(h:Heap):Prop:=
 ∃rH mX:Nat,h=⟨[(rH,some (cT.map enc))],mX⟩∧e.length=49∧e.at 0=iI a0∧e.at 3=iL a3∧e.at 9=V.sl 0 rH 0 cT.length 1∧e.at 11=iI x7∧e.at 16=iL a2∧e.at 17=iI (a2.length:Int)∧e.at 18=iI cA∧e.at 26=iL x9∧e.at 27=iI (x9.length:Int)∧e.at 28=iI eH
def P119_2(a0:Int)(a2:L1)(a3:L2)(cA:Int)(x7:Int)(x9:L1)(eO:L1)(x:Ex)(e:Env)(h:Heap):Prop:=
 x= .normal∧∃rH mX:Nat,h=⟨[(rH,some (eO.map enc))],mX⟩∧e.length=49∧e.at 0=iI a0∧e.at 3=iL a3∧e.at 9=V.sl 0 rH 0 eO.length 1∧e.at 16=iL a2∧e.at 17=iI (a2.length:Int)∧e.at 18=iI cA
theorem l119_2(a0:Int)(a2:L1)(a3:L2)(cA:Int)(x7:Int)(x9:L1){lo:Int}{s:L1}{t:L1}(hF:forR lo (x9.length:Int) (F119_2_B a0 a2 a3 cA x7 x9) (F119_2_D a0 a2 a3 cA x7 x9) s=some t){e:Env}{h:Heap}(hI:I119_2 a0 a2 a3 cA x7 x9 lo s e h):W A c119_2 e h (P119_2 a0 a2 a3 cA x7 x9 t):=by
 show W A (.block 2 (.loop false b119_2)) e h _;rw[qj];refine qz hF 1 (by obtain⟨_,_,rfl,_⟩:=hI; rfl) (I119_2 a0 a2 a3 cA x7 x9) hI ?_ ?_
 ·rintro eH cT e h ⟨rH,mX,rfl,h_11⟩ hlt hw o ho
  unfold F119_2_B at ho;obtain⟨cQ,dP,ho⟩:=bS ho;obtain⟨kP,iX⟩:=qg dP;obtain⟨dU,eL,ho⟩:=bS ho;obtain⟨lM,kO⟩:=qg eL;have sO:=qY eL;have kN:List.drop (Int.toNat eH) (cT.map enc)=(iI dU)::List.drop ((Int.toNat eH)+1) (cT.map enc):=jf kO;obtain⟨eA,dV,ho⟩:=bS ho;have sC:=qu dV;obtain⟨dN,eT,ho⟩:=bS ho;have sB:=qu eT;obtain⟨dA,dL,ho⟩:=bS ho;obtain⟨r5,q9⟩:=rem_w dL;obtain⟨i6,pZ,ho⟩:=bS ho;obtain⟨kc,iz,w24c,w24d,q7⟩:=jy pZ;replace q7:List.take (Int.toNat eH) (cT.map enc)++[iI dA]++List.drop (Int.toNat eH+1) (cT.map enc)=List.map enc i6:=q7;cases ho;simp only[simprocAttr,R0,b119_2, *];refine ai rfl (ei _ (ei _ (ai rfl ?_)));simp only[simprocAttr,R0, *]
 ·rintro eH cT e h ⟨rH,mX,rfl,h_11⟩ hge t1 ho
  unfold F119_2_D at ho;cases ho;simp only[simprocAttr,R0,b119_2, *];intro ht; subst ht;refine ai rfl (ei _ (ei _ (ai rfl ?_)));simp only[simprocAttr,R0, *]
def I119_1(a0:Int)(a2:L1)(a3:L2)(cA:Int)(aC:L1)(e:Env)(h:Heap):Prop:=
 ∃u4 k5:Nat,h=⟨[(u4,some (aC.map enc))],k5⟩∧e.length=49∧e.at 0=iI a0∧e.at 3=iL a3∧e.at 9=V.sl 0 u4 0 aC.length 1∧e.at 16=iL a2∧e.at 17=iI (a2.length:Int)∧e.at 18=iI cA
def P119_1(a0:Int)(a2:L1)(a3:L2)(aD:L1)(x:Ex)(e:Env)(h:Heap):Prop:=
 x= .normal∧∃u4 k5:Nat,h=⟨[(u4,some (aD.map enc))],k5⟩∧e.length=49∧e.at 9=V.sl 0 u4 0 aD.length 1
theorem l119_1(a0:Int)(a2:L1)(a3:L2){lo:Int}{s:L1}{t:L1}(hF:forR lo (a2.length:Int) (F119_1_B a0 a2 a3) (F119_1_D a0 a2 a3) s=some t){e:Env}{h:Heap}(hI:I119_1 a0 a2 a3 lo s e h):W A c119_1 e h (P119_1 a0 a2 a3 t):=by
 show W A (.block 0 (.loop false b119_1)) e h _;rw[qj];refine qz hF 1 (by obtain⟨_,_,rfl,_⟩:=hI; rfl) (I119_1 a0 a2 a3) hI ?_ ?_
 ·rintro cA aC e h ⟨u4,k5,rfl,h_3⟩ hlt hw o ho
  unfold F119_1_B at ho;obtain⟨x7,dF,ho⟩:=bS ho;obtain⟨mR,mE⟩:=qg dF;obtain⟨x9,eJ,ho⟩:=bS ho;obtain⟨iZ,iK⟩:=qg eJ;obtain⟨eO,nD,ho⟩:=bS ho;simp only[simprocAttr,R0,b119_1, *];refine W.mono (l119_2 a0 a2 a3 cA x7 x9 nD (ei _ (ei _ (ai rfl ?_)))) ?_
  ·simp only[simprocAttr,R0, *]
  rintro _ e _ ⟨rfl,rH,mX,rfl,h_14⟩;cases ho;simp only[simprocAttr,R0, *];refine ai rfl (ei _ (ei _ (ai rfl ?_)));simp only[simprocAttr,R0, *]
 ·rintro cA aC e h ⟨u4,k5,rfl,h_3⟩ hge t1 ho
  unfold F119_1_D at ho;cases ho;simp only[simprocAttr,R0,b119_1, *];intro ht; subst ht;refine ai rfl (ei _ (ei _ (ai rfl ?_)));simp only[simprocAttr,R0, *]
theorem s119(a0:Int)(a1:Int)(a2:L1)(a3:L2){r:L1}(hF:F119 a0 a1 a2 a3=some r):ans A 119 [iI a0,iI a1,iL a2,iL a3]=some (enc r):=by
 refine qv (f:=p119) rfl rfl rfl fun e hl he=>?_;have aA:=he 0 _ rfl;have aB:=he 1 _ rfl;have aN:=he 2 _ rfl;have bR:=he 3 _ rfl;have hl_0:e.length=49:=hl;clear he hl;show W A b119 e ⟨[],0⟩ _;unfold F119 at hF;obtain⟨l1,oW,hF⟩:=bS hF;obtain⟨nK,nJ,rD,pA,kK⟩:=mkL_w oW;replace kK:(List.replicate (Int.toNat a1) [iI 0]).flatten=List.map enc l1:=kK;obtain⟨aD,kI,hF⟩:=bS hF;simp only[simprocAttr, -Int.reduceNatCast',R0,b119, *];refine W.mono (l119_1 a0 a2 a3 kI (ei _ (ei _ (ai rfl ?_)))) ?_
 ·simp only[simprocAttr, -Int.reduceNatCast',R0, *]
 rintro _ e _ ⟨rfl,u4,k5,rfl,hl_6,tP⟩;have hE:=wA hF; subst hE;simp only[simprocAttr, -Int.reduceNatCast',R0, *];exact qc (by simp only[simprocAttr, -Int.reduceNatCast',R0,qe,p119,Rs.ev,qb,frzs (α:=Int) aD,qM (α:=Int) aD, *])
def F91(a0:qa)(a1:Int)(a2:L1):Option L1:=
 if a1≤0 then
  some ([]:L1)
 else
  (F86 a0).bind fun x2=>
  if x2 < a1 then
   some ([]:L1)
  else
   (chk (a1 - 1)).bind fun x5=>
   (getI a0.D x5).bind fun x6=>
   (getI a0.M x5).bind fun x8=>
   (F119 a0.P x6 a2 x8).bind fun dI=>
   some dI
theorem s91(a0:qa)(a1:Int)(a2:L1){r:L1}(hF:F91 a0 a1 a2=some r):ans A 91 [(eC a0),iI a1,iL a2]=some (enc r):=by
 refine qv (f:=p91) rfl rfl rfl fun e hl he=>?_;have aA:=he 0 _ rfl;have aB:=he 1 _ rfl;have aN:=he 2 _ rfl;have hl_0:e.length=31:=hl;clear he hl;have h_0:=ai hl_0 (ai aA (ai aB aN));show W A b91 e ⟨[],0⟩ _;unfold F91 at hF;by_cases c1:a1≤0
 ·rw[if_pos c1]at hF
  cases hF;simp only[simprocAttr,R0,b91, *];exact qc (by simp only[simprocAttr,R0,qe,p91,Rs.ev,qb, *])
 ·rw[if_neg c1]at hF
  obtain⟨x2,fK,hF⟩:=bS hF;have w3:=s86 a0 fK;by_cases c4:x2 < a1
  ·rw[if_pos c4]at hF
   cases hF;simp only[simprocAttr,R0,b91, *];exact qc (by simp only[simprocAttr,R0,qe,p91,Rs.ev,qb, *])
  ·rw[if_neg c4]at hF
   obtain⟨x5,dC,hF⟩:=bS hF;have wx5:=qu dC;obtain⟨x6,fH,hF⟩:=bS hF;obtain⟨fx,fw⟩:=qg fH;obtain⟨x8,kC,hF⟩:=bS hF;obtain⟨d9,d7⟩:=qg kC;obtain⟨dI,dY,hF⟩:=bS hF;have pP:=s119 a0.P x6 a2 x8 dY;cases hF;simp only[simprocAttr,R0,b91, *];exact qc (by simp only[simprocAttr,R0,qe,p91,Rs.ev,qb, *])
def F56(a0:Int)(a1:Int)(a2:Int):Option Bool:=
 if a1≤a0 then
  some (decide (a0≤a2))
 else
  some false
theorem s56(a0:Int)(a1:Int)(a2:Int){r:Bool}(hF:F56 a0 a1 a2=some r):ans A 56 [iI a0,iI a1,iI a2]=some (enc r):=by
 refine qv (f:=p56) rfl rfl rfl fun e hl he=>?_;have aA:=he 0 _ rfl;have aB:=he 1 _ rfl;have aN:=he 2 _ rfl;have hl_0:e.length=15:=hl;clear he hl;have h_0:=ai hl_0 (ai aA (ai aB aN));show W A b56 e ⟨[],0⟩ _;unfold F56 at hF;by_cases c1:a1≤a0
 ·rw[if_pos c1]at hF
  cases hF;simp only[simprocAttr,R0,b56, *];exact qc (by simp only[simprocAttr,R0,qe,p56,Rs.ev,qb, *])
 ·rw[if_neg c1]at hF
  cases hF;simp only[simprocAttr,R0,b56, *];exact qc (by simp only[simprocAttr,R0,qe,p56,Rs.ev,qb, *])
def F102(a0:qa)(a1:Int):Option Int:=
 (F86 a0).bind fun x1=>
 (F56 a1 0 x1).bind fun x3=>
 if x3=true then
  (getI a0.D a1).bind fun x5=>
  some x5
 else
  some 0
theorem s102(a0:qa)(a1:Int){r:Int}(hF:F102 a0 a1=some r):ans A 102 [(eC a0),iI a1]=some (enc r):=by
 refine qv (f:=p102) rfl rfl rfl fun e hl he=>?_;have aA:=he 0 _ rfl;have aB:=he 1 _ rfl;have hl_0:e.length=15:=hl;clear he hl;have h_0:=ai hl_0 (ai aA aB);show W A b102 e ⟨[],0⟩ _;unfold F102 at hF;obtain⟨x1,bI,hF⟩:=bS hF;have w2:=s86 a0 bI;obtain⟨x3,dO,hF⟩:=bS hF;have w4:=s56 a1 0 x1 dO;cases x3 with
 |true=>
  rw[if_pos rfl]at hF;obtain⟨x5,dC,hF⟩:=bS hF;obtain⟨iE,iD⟩:=qg dC;cases hF;simp only[simprocAttr,R0,b102, *];exact qc (by simp only[simprocAttr,R0,qe,p102,Rs.ev,qb, *])
 |false=>
  rw[if_neg wD]at hF;cases hF;simp only[simprocAttr,R0,b102, *];exact qc (by simp only[simprocAttr,R0,qe,p102,Rs.ev,qb, *])
def F132(a0:Int)(a1:Int):Option L1:=
 (mkL 8 a0 0).bind fun l1=>
 (getI l1 a1).bind fun x3=>
 (setI l1 a1 1).bind fun l5=>
 some l5
theorem t132(a0:Int)(a1:Int){r:L1}(hF:F132 a0 a1=some r):tans A 132 [1] [iI a0,iI a1]=some (enc r):=by
 refine tans_of (f:=p132) rfl rfl rfl fun e hl he=>?_;have aA:=he 0 _ rfl;have aB:=he 1 _ rfl;have hl_0:e.length=12:=hl;clear he hl;show W A b132 e ⟨[],0⟩ _;unfold F132 at hF;obtain⟨l1,oW,hF⟩:=bS hF;obtain⟨nK,nJ,rD,pA,kK⟩:=mkL_w oW;replace kK:(List.replicate (Int.toNat a0) [iI 0]).flatten=List.map enc l1:=kK;obtain⟨x3,dO,hF⟩:=bS hF;obtain⟨e8,rC⟩:=qg dO;have mS:=qY dO;replace mS:a1 < (((Int.toNat a0):Nat):Int):=by first|exact mS|(simp only[pA]at mS ⊢; exact mS)
 have o4:List.drop (Int.toNat a1) (l1.map enc)=(iI x3)::List.drop ((Int.toNat a1)+1) (l1.map enc):=jf rC;obtain⟨l5,bv,hF⟩:=bS hF;obtain⟨iE,iD,rB,lG,mF⟩:=jy bv;replace mF:List.take (Int.toNat a1) (l1.map enc)++[iI 1]++List.drop (Int.toNat a1+1) (l1.map enc)=List.map enc l5:=mF;have hE:=wA hF; subst hE;simp only[simprocAttr, -Int.reduceNatCast',R0,b132,hl_0,aA,aB,nK,nJ,rD,kK,e8,rC,mS,o4,iE,iD,rB,mF];exact jF (by simp only[simprocAttr, -Int.reduceNatCast',R0,qe,p132,Rs.ev,qb,hl_0,aA,aB,nK,nJ,rD,kK,e8,rC,mS,o4,iE,iD,rB,mF,frzs (α:=Int) l5,qM (α:=Int) l5,qK (α:=Int) (l:=l5) (n:=(Int.toNat a0)) (by first|rfl|simp only[pA,lG]),pA,lG])
def F124_1_B(a0:Int)(aR:Int)(aC:L2):Option ((L2)⊕(L2)):=
 (F132 a0 aR).bind fun x5=>
(app 24 aC [x5]).bind fun l8=>
some (.inl l8)
def F124_1_D(a0:Int)(aR:Int)(aC:L2):Option (L2):=
 some aC
def F124(a0:Int):Option L2:=
 (forR 0 a0 (F124_1_B a0) (F124_1_D a0) ([]:L2)).bind fun aD=>
 some aD
theorem d124(a0:Int){r:L2}(hF:F124 a0=some r):∃v h',res A 124 [iI a0] Heap.empty=some (v,h')∧∃K,Deep.rep h' v r K:=by
 refine res_dp (f:=p124) rfl rfl rfl fun e hl he=>?_;have aA:=he 0 _ rfl;have hl_0:e.length=18:=hl;clear he hl;show W A b124 e ⟨[],0⟩ _;unfold F124 at hF;obtain⟨aD,oj,hF⟩:=bS hF;have hE:=wA hF; subst hE;simp only[simprocAttr, -Int.reduceNatCast',R1,b124, *];show W A (.block 0 (.loop true b124_1)) _ _ _;rw[qj];refine qz oj _ rfl (fun i l e h=>∃u vs K,h.ents[0]? =some (u,some vs)∧reps h vs l K∧¬K 0∧e.length=18∧e.at 0=iI a0∧e.at 3=V.sl 0 u 0 l.length 1∧e.at 6=iI a0∧e.at 7=iI i) ?_ ?_ ?_
 ·refine⟨0,[],fun _=> False,rfl,fun _ x=> x,fun x=> x,?_⟩
  simp only[simprocAttr, -Int.reduceNatCast',R1, *]
 ·rintro i l e ⟨E,c⟩ ⟨u,vs,K,g1,g2,g3,hl_1,aF,dX,bB,bY⟩ hlt hw o ho
  unfold F124_1_B at ho;obtain⟨x7,dF,ho⟩:=bS ho;have w8:=t132 a0 i dF;obtain⟨tL,lD,ho⟩:=bS ho;obtain⟨q1,q2,rfl⟩:=app_w lD;have hE:=wA ho; subst hE;have hln:=g2.len;have hE0:0 < E.length:=gA g1;have w9:∀x y c',za 1 24 (.sl 0 u 0 l.length 1) 1 [V.sl E.length c 0 x7.length 1] ⟨E++[x]++[y],c'⟩=_:=fun x y c'=> zn (E:=E++[x]++[y]) (vs:=vs) (by rw[gC (by simp),gC hE0]; exact g1) hln (by simpa using q1) (by simpa using q2);simp only[simprocAttr, -Int.reduceNatCast',R1,b124_1,qN,qX,qI, *];have r1:=deep_round (h:=⟨E,c⟩) (h1:=⟨E++[(c,some (x7.map enc))],c+1⟩) (h2:=⟨(E++[(c,some (x7.map enc))]++[(c+1,some [V.sl E.length c 0 x7.length 1])]).set 0 (c+1+1,some (vs++[V.sl E.length c 0 x7.length 1])),c+1+1+1⟩) g2
   (jT (l:=x7) (K:=fun k=> k=E.length) (qI _ _) fun k=> yA) (fun k q=> by show E.length≤k; omega) (fun k q=> gC q) (fun k p q=> qT (fun e=> by subst e; exact q.elim g3 (fun q=> by omega)) p) (by simp)
  refine ai rfl ⟨_,_,_,qr (by simp),r1,fun q=> q.elim g3 (fun q=> by omega),?_⟩;simp only[simprocAttr, -Int.reduceNatCast',R1,wR, *]
 ·rintro i l e ⟨E,c⟩ ⟨u,vs,K,g1,g2,g3,hl_1,aF,dX,bB,bY⟩ hge t1 ho
  unfold F124_1_D at ho;have hE:=wA ho; subst hE;simp only[simprocAttr, -Int.reduceNatCast',R1,b124_1, *];intro ht; subst ht;refine ai (fun _=> trivial) ⟨_,by simp only[simprocAttr, -Int.reduceNatCast',R1,qe,p124,Rs.ev, *],fun k=> k=0∨K k,.inr ⟨0,u,vs,K,rfl,g1,g2,g3,fun k=> yA⟩⟩
theorem s124(a0:Int){r:L2}(hF:F124 a0=some r):ans A 124 [iI a0]=some (enc r):=ans_of_deep (by decide) (d124 a0 hF)
def F165_1_B(a0:L1)(a1:L1)(gV:Int)(s:Unit):Option ((Unit)⊕((Unit)⊕Bool)):=
 (getI a0 gV).bind fun x5=>
(getI a1 gV).bind fun x7=>
if x5=x7 then
 some (.inl ())
else
 some (.inr (.inr false))
def F165_1_D(a0:L1)(a1:L1)(gV:Int)(s:Unit):Option ((Unit)⊕Bool):=
 some (.inl ())
def F165(a0:L1)(a1:L1):Option Bool:=
 if(a0.length:Int)=(a1.length:Int)then
  (forR 0 (a0.length:Int) (F165_1_B a0 a1) (F165_1_D a0 a1) ()).bind fun nN=> match nN with
   | .inl _=>
    some true
   | .inr pE=> some pE
 else
  some false
def I165_1(a0:L1)(a1:L1)(gV:Int)(s:Unit)(e:Env)(h:Heap):Prop:=
 ∃k3:Nat,h=⟨[],k3⟩∧e.length=26∧e.at 0=iL a0∧e.at 1=iL a1∧e.at 12=iI (a0.length:Int)∧e.at 13=iI gV
def P165_1(a0:L1)(a1:L1)(t:(Unit)⊕Bool)(x:Ex)(e:Env)(h:Heap):Prop:=
 match t with
 | .inl _=> x= .normal∧∃k3:Nat,h=⟨[],k3⟩∧e.length=26
 | .inr r=> x= .ret∧Fin p165 (enc r) .ret e h
theorem l165_1(a0:L1)(a1:L1){lo:Int}{s:Unit}{t:(Unit)⊕Bool}(hF:forR lo (a0.length:Int) (F165_1_B a0 a1) (F165_1_D a0 a1) s=some t){e:Env}{h:Heap}(hI:I165_1 a0 a1 lo s e h):W A c165_1 e h (P165_1 a0 a1 t):=by
 show W A (.block 0 (.loop false b165_1)) e h _;rw[qj];refine qz hF 0 (by obtain⟨_,rfl,_⟩:=hI; rfl) (I165_1 a0 a1) hI ?_ ?_
 ·rintro gV _ e h ⟨k3,rfl,h_2⟩ hlt hw o ho
  unfold F165_1_B at ho;obtain⟨x5,dC,ho⟩:=bS ho;obtain⟨iE,iD⟩:=qg dC;obtain⟨x7,dF,ho⟩:=bS ho;obtain⟨mR,mE⟩:=qg dF;by_cases c9:x5=x7
  ·rw[if_pos c9]at ho
   cases ho;simp only[simprocAttr,R0,b165_1, *];refine ai rfl (ei _ (ai rfl ?_));simp only[simprocAttr,R0, *]
  ·rw[if_neg c9]at ho
   cases ho;simp only[simprocAttr,R0,b165_1, *];intro ht; subst ht;simp only[simprocAttr,RR,RB];exact ai rfl (qc (by simp only[simprocAttr,R0,qe,p165,Rs.ev,qb, *]))
 ·rintro gV _ e h ⟨k3,rfl,h_2⟩ hge t1 ho
  unfold F165_1_D at ho;cases ho;simp only[simprocAttr,R0,b165_1, *];intro ht; subst ht;refine ai rfl (ei _ (ai rfl ?_));simp only[simprocAttr,R0, *]
theorem s165(a0:L1)(a1:L1){r:Bool}(hF:F165 a0 a1=some r):ans A 165 [iL a0,iL a1]=some (enc r):=by
 refine qv (f:=p165) rfl rfl rfl fun e hl he=>?_;have aA:=he 0 _ rfl;have aB:=he 1 _ rfl;have hl_0:e.length=26:=hl;clear he hl;have h_0:=ai hl_0 (ai aA aB);show W A b165 e ⟨[],0⟩ _;unfold F165 at hF;by_cases c1:(a0.length:Int)=(a1.length:Int)
 ·rw[if_pos c1]at hF
  obtain⟨nN,lB,hF⟩:=bS hF;rcases nN with _|pE
  ·dsimp only at hF
   simp only[simprocAttr,R0,b165, *];refine W.mono (l165_1 a0 a1 lB (ei _ (ai rfl ?_))) ?_
   ·simp only[simprocAttr,R0, *]
   rintro _ e _ ⟨rfl,k3,rfl,hl_4⟩;cases hF;simp only[simprocAttr,R0, *];exact qc (by simp only[simprocAttr,R0,qe,p165,Rs.ev,qb, *])
  ·dsimp only at hF
   cases hF;simp only[simprocAttr,R0,b165, *];refine W.mono (l165_1 a0 a1 lB (ei _ (ai rfl ?_))) ?_
   ·simp only[simprocAttr,R0, *]
   rintro _ e h ⟨rfl,hq⟩;simp only[simprocAttr,RR,RB];exact hq
 ·rw[if_neg c1]at hF
  cases hF;simp only[simprocAttr,R0,b165, *];exact qc (by simp only[simprocAttr,R0,qe,p165,Rs.ev,qb, *])
def F96(a0:L1):Option L1:=app 8 [] a0
theorem t96(a0:L1){r:L1}(hF:F96 a0=some r):tans A 96 [1] [iL a0]=some (enc r):=clone_tans rfl hF
def F173_1_B(a0:Int)(a2:L1)(a3:Int)(eI:Int)(aC:L1):Option ((L1)⊕(L1)):=
 (getI a2 eI).bind fun x7=>
(getI aC eI).bind fun x9=>
(chk (a3*x7)).bind fun bA=>
(chk (x9+bA)).bind fun dG=>
(remI dG a0).bind fun bD=>
(setI aC eI bD).bind fun iR=>
some (.inl iR)
def F173_1_D(a0:Int)(a2:L1)(a3:Int)(eI:Int)(aC:L1):Option (L1):=
 some aC
def F173(a0:Int)(a1:L1)(a2:L1)(a3:Int):Option L1:=
 (F96 a1).bind fun x1=>
 (forR 0 (a2.length:Int) (F173_1_B a0 a2 a3) (F173_1_D a0 a2 a3) x1).bind fun aD=>
 some aD
def I173_1(a0:Int)(a2:L1)(a3:Int)(eI:Int)(aC:L1)(e:Env)(h:Heap):Prop:=
 ∃u4 k5:Nat,h=⟨[(u4,some (aC.map enc))],k5⟩∧e.length=36∧e.at 0=iI a0∧e.at 3=iI a3∧e.at 9=V.sl 0 u4 0 aC.length 1∧e.at 14=iL a2∧e.at 15=iI (a2.length:Int)∧e.at 16=iI eI
def P173_1(a0:Int)(a2:L1)(a3:Int)(aD:L1)(x:Ex)(e:Env)(h:Heap):Prop:=
 x= .normal∧∃u4 k5:Nat,h=⟨[(u4,some (aD.map enc))],k5⟩∧e.length=36∧e.at 9=V.sl 0 u4 0 aD.length 1
theorem l173_1(a0:Int)(a2:L1)(a3:Int){lo:Int}{s:L1}{t:L1}(hF:forR lo (a2.length:Int) (F173_1_B a0 a2 a3) (F173_1_D a0 a2 a3) s=some t){e:Env}{h:Heap}(hI:I173_1 a0 a2 a3 lo s e h):W A c173_1 e h (P173_1 a0 a2 a3 t):=by
 show W A (.block 0 (.loop false b173_1)) e h _;rw[qj];refine qz hF 1 (by obtain⟨_,_,rfl,_⟩:=hI; rfl) (I173_1 a0 a2 a3) hI ?_ ?_
 ·rintro eI aC e h ⟨u4,k5,rfl,h_3⟩ hlt hw o ho
  unfold F173_1_B at ho;obtain⟨x7,dF,ho⟩:=bS ho;obtain⟨mR,mE⟩:=qg dF;obtain⟨x9,eJ,ho⟩:=bS ho;obtain⟨iZ,iK⟩:=qg eJ;have sU:=qY eJ;have iJ:List.drop (Int.toNat eI) (aC.map enc)=(iI x9)::List.drop ((Int.toNat eI)+1) (aC.map enc):=jf iK;obtain⟨bA,cM,ho⟩:=bS ho;have wx11:=qu cM;obtain⟨dG,dQ,ho⟩:=bS ho;have pM:=qu dQ;obtain⟨bD,cD,ho⟩:=bS ho;obtain⟨kl,kk⟩:=rem_w cD;obtain⟨iR,lC,ho⟩:=bS ho;obtain⟨kP,iX,pO,nM,nL⟩:=jy lC;replace nL:List.take (Int.toNat eI) (aC.map enc)++[iI bD]++List.drop (Int.toNat eI+1) (aC.map enc)=List.map enc iR:=nL;cases ho;simp only[simprocAttr,R0,b173_1, *];refine ai rfl (ei _ (ei _ (ai rfl ?_)));simp only[simprocAttr,R0, *]
 ·rintro eI aC e h ⟨u4,k5,rfl,h_3⟩ hge t1 ho
  unfold F173_1_D at ho;cases ho;simp only[simprocAttr,R0,b173_1, *];intro ht; subst ht;refine ai rfl (ei _ (ei _ (ai rfl ?_)));simp only[simprocAttr,R0, *]
theorem s173(a0:Int)(a1:L1)(a2:L1)(a3:Int){r:L1}(hF:F173 a0 a1 a2 a3=some r):ans A 173 [iI a0,iL a1,iL a2,iI a3]=some (enc r):=by
 refine qv (f:=p173) rfl rfl rfl fun e hl he=>?_;have aA:=he 0 _ rfl;have aB:=he 1 _ rfl;have aN:=he 2 _ rfl;have bR:=he 3 _ rfl;have hl_0:e.length=36:=hl;clear he hl;show W A b173 e ⟨[],0⟩ _;unfold F173 at hF;obtain⟨x1,bI,hF⟩:=bS hF;have w2:tans A 96 [1] [iL a1]=some (iL x1):=t96 a1 bI;have w2t:=qX (α:=Int) x1;obtain⟨aD,lA,hF⟩:=bS hF;simp only[simprocAttr, -Int.reduceNatCast',R0,b173, *];refine W.mono (l173_1 a0 a2 a3 lA (ei _ (ei _ (ai rfl ?_)))) ?_
 ·simp only[simprocAttr, -Int.reduceNatCast',R0, *]
 rintro _ e _ ⟨rfl,u4,k5,rfl,hl_6,tP⟩;have hE:=wA hF; subst hE;simp only[simprocAttr, -Int.reduceNatCast',R0, *];exact qc (by simp only[simprocAttr, -Int.reduceNatCast',R0,qe,p173,Rs.ev,qb,frzs (α:=Int) aD,qM (α:=Int) aD, *])
def jH(a0:List L3)(f1:L3→Option Bool)(aE:Int)(s:Unit):Option ((Unit)⊕((Unit)⊕Int)):=
 (getI a0 aE).bind fun x4=>
(f1 x4).bind fun x6=>
if x6=true then
 some (.inr (.inr aE))
else
 some (.inl ())
def F307_1_D(a0:List L3)(f1:L3→Option Bool)(aE:Int)(s:Unit):Option ((Unit)⊕Int):=
 some (.inl ())
def F307(a0:List L3)(f1:L3→Option Bool):Option Int:=
 (forR 0 (a0.length:Int) (jH a0 f1) (F307_1_D a0 f1) ()).bind fun t8=> match t8 with
  | .inl _=>
   some (-1)
  | .inr r9=> some r9
def I307_1(a0:List L3)(f1:L3→Option Bool)(dD:V)(aE:Int)(s:Unit)(e:Env)(h:Heap):Prop:=
 ∃k2:Nat,h=⟨[],k2⟩∧e.length=19∧e.at 0=iL a0∧e.at 1=dD∧e.at 7=iI (a0.length:Int)∧e.at 8=iI aE
def P307_1(a0:List L3)(f1:L3→Option Bool)(dD:V)(t:(Unit)⊕Int)(x:Ex)(e:Env)(h:Heap):Prop:=
 match t with
 | .inl _=> x= .normal∧∃k2:Nat,h=⟨[],k2⟩∧e.length=19
 | .inr r=> x= .ret∧Fin p307 (enc r) .ret e h
theorem l307_1(a0:List L3)(f1:L3→Option Bool)(dD:V)(hf1:Clo1 A dD f1){lo:Int}{s:Unit}{t:(Unit)⊕Int}(hF:forR lo (a0.length:Int) (jH a0 f1) (F307_1_D a0 f1) s=some t){e:Env}{h:Heap}(hI:I307_1 a0 f1 dD lo s e h):W A c307_1 e h (P307_1 a0 f1 dD t):=by
 obtain⟨g_f1,fs_f1,cs_f1,hv_f1,hc_f1⟩:=id hf1;show W A (.block 0 (.loop false b307_1)) e h _;rw[qj];refine qz hF 0 (by obtain⟨_,rfl,_⟩:=hI; rfl) (I307_1 a0 f1 dD) hI ?_ ?_
 ·rintro aE _ e h ⟨k2,rfl,h_1⟩ hlt hw o ho
  unfold jH at ho;obtain⟨x4,dK,ho⟩:=bS ho;obtain⟨sI,sG⟩:=qg dK;obtain⟨x6,fH,ho⟩:=bS ho;have fx:∀h,mapO (frz h 16) (fs_f1++[iL x4]++cs_f1)=some (fs_f1++[iL x4]++cs_f1):=fun h=> hc_f1.zf x4 h;have fw:List.all (fs_f1++[iL x4]++cs_f1) (qo 16)=true:=hc_f1.zr x4;have w7c:ans A g_f1 (fs_f1++[iL x4]++cs_f1)=some (V.bool x6):=hc_f1.ka x4 _ fH;cases x6 with
  |true=>
   rw[if_pos rfl]at ho;cases ho;simp only[simprocAttr,R0,b307_1, *];intro ht; subst ht;simp only[simprocAttr,RR,RB];exact ai rfl (qc (by simp only[simprocAttr,R0,qe,p307,Rs.ev,qb, *]))
  |false=>
   rw[if_neg wD]at ho;cases ho;simp only[simprocAttr,R0,b307_1, *];refine ai rfl (ei _ (ai rfl ?_));simp only[simprocAttr,R0, *]
 ·rintro aE _ e h ⟨k2,rfl,h_1⟩ hge t1 ho
  unfold F307_1_D at ho;cases ho;simp only[simprocAttr,R0,b307_1, *];intro ht; subst ht;refine ai rfl (ei _ (ai rfl ?_));simp only[simprocAttr,R0, *]
theorem s307(a0:List L3)(f1:L3→Option Bool){dD:V}(hf1:Clo1 A dD f1){r:Int}(hF:F307 a0 f1=some r):ans A 307 [iL a0,dD]=some (enc r):=by
 refine qv (f:=p307) rfl rfl rfl fun e hl he=>?_;have aA:=he 0 _ rfl;have aB:=he 1 _ rfl;obtain⟨g_f1,fs_f1,cs_f1,hv_f1,hc_f1⟩:=id hf1;have hl_0:e.length=19:=hl;clear he hl;have h_0:=ai hl_0 (ai aA aB);show W A b307 e ⟨[],0⟩ _;unfold F307 at hF;obtain⟨t8,oJ,hF⟩:=bS hF;rcases t8 with _|r9
 ·dsimp only at hF
  simp only[simprocAttr,R0,b307, *];refine W.mono (l307_1 a0 f1 dD hf1 oJ (ei _ (ai rfl ?_))) ?_
  ·simp only[simprocAttr,R0, *]
  rintro _ e _ ⟨rfl,k2,rfl,hl_3⟩;cases hF;simp only[simprocAttr,R0, *];exact qc (by simp only[simprocAttr,R0,qe,p307,Rs.ev,qb, *])
 ·dsimp only at hF
  cases hF;simp only[simprocAttr,R0,b307, *];refine W.mono (l307_1 a0 f1 dD hf1 oJ (ei _ (ai rfl ?_))) ?_
  ·simp only[simprocAttr,R0, *]
  rintro _ e h ⟨rfl,hq⟩;simp only[simprocAttr,RR,RB];exact hq
def F276(a0:List L3)(f1:L3→Option Bool):Option Bool:=
 (F307 a0 f1).bind fun x1=>
 some (decide (0≤x1))
theorem s276(a0:List L3)(f1:L3→Option Bool){dD:V}(hf1:Clo1 A dD f1){r:Bool}(hF:F276 a0 f1=some r):ans A 276 [iL a0,dD]=some (enc r):=by
 refine qv (f:=p276) rfl rfl rfl fun e hl he=>?_;have aA:=he 0 _ rfl;have aB:=he 1 _ rfl;obtain⟨g_f1,fs_f1,cs_f1,hv_f1,hc_f1⟩:=id hf1;have hl_0:e.length=9:=hl;clear he hl;show W A b276 e ⟨[],0⟩ _;unfold F276 at hF;obtain⟨x1,bI,hF⟩:=bS hF;have w2:ans A 307 [iL a0,dD]=some (iI x1):=s307 a0 f1 hf1 bI;cases hF;simp only[simprocAttr,R0,b276,hl_0,aA,aB,hf1.fz,hf1.rl,w2];exact qc (by simp only[simprocAttr,R0,qe,p276,Rs.ev,qb,hl_0,aA,aB,hf1.fz,hf1.rl,w2])
def F67(a0:Int):Option Bool:=
 if a0=2 then
  some true
 else
  if a0=3 then
   some true
  else
   if a0=5 then
    some true
   else
    some (decide (a0=7))
theorem s67(a0:Int){r:Bool}(hF:F67 a0=some r):ans A 67 [iI a0]=some (enc r):=by
 refine qv (f:=p67) rfl rfl rfl fun e hl he=>?_;have aA:=he 0 _ rfl;have hl_0:e.length=17:=hl;clear he hl;have h_0:=ai hl_0 aA;show W A b67 e ⟨[],0⟩ _;unfold F67 at hF;by_cases c1:a0=2
 ·rw[if_pos c1]at hF
  cases hF;simp only[simprocAttr,R0,b67, *];exact qc (by simp only[simprocAttr,R0,qe,p67,Rs.ev,qb, *])
 ·rw[if_neg c1]at hF
  by_cases c2:a0=3
  ·rw[if_pos c2]at hF
   cases hF;simp only[simprocAttr,R0,b67, *];exact qc (by simp only[simprocAttr,R0,qe,p67,Rs.ev,qb, *])
  ·rw[if_neg c2]at hF
   by_cases c3:a0=5
   ·rw[if_pos c3]at hF
    cases hF;simp only[simprocAttr,R0,b67, *];exact qc (by simp only[simprocAttr,R0,qe,p67,Rs.ev,qb, *])
   ·rw[if_neg c3]at hF
    cases hF;simp only[simprocAttr,R0,b67, *];exact qc (by simp only[simprocAttr,R0,qe,p67,Rs.ev,qb, *])
def xU(a0:L1)(f1:Int→Option Bool)(aE:Int)(s:Unit):Option ((Unit)⊕((Unit)⊕Int)):=
 (getI a0 aE).bind fun x4=>
(f1 x4).bind fun x6=>
if x6=true then
 some (.inr (.inr aE))
else
 some (.inl ())
def F115_1_D(a0:L1)(f1:Int→Option Bool)(aE:Int)(s:Unit):Option ((Unit)⊕Int):=
 some (.inl ())
def F115(a0:L1)(f1:Int→Option Bool):Option Int:=
 (forR 0 (a0.length:Int) (xU a0 f1) (F115_1_D a0 f1) ()).bind fun t8=> match t8 with
  | .inl _=>
   some (-1)
  | .inr r9=> some r9
def I115_1(a0:L1)(f1:Int→Option Bool)(dD:V)(aE:Int)(s:Unit)(e:Env)(h:Heap):Prop:=
 ∃k2:Nat,h=⟨[],k2⟩∧e.length=19∧e.at 0=iL a0∧e.at 1=dD∧e.at 7=iI (a0.length:Int)∧e.at 8=iI aE
def P115_1(a0:L1)(f1:Int→Option Bool)(dD:V)(t:(Unit)⊕Int)(x:Ex)(e:Env)(h:Heap):Prop:=
 match t with
 | .inl _=> x= .normal∧∃k2:Nat,h=⟨[],k2⟩∧e.length=19
 | .inr r=> x= .ret∧Fin p115 (enc r) .ret e h
theorem l115_1(a0:L1)(f1:Int→Option Bool)(dD:V)(hf1:Clo1 A dD f1){lo:Int}{s:Unit}{t:(Unit)⊕Int}(hF:forR lo (a0.length:Int) (xU a0 f1) (F115_1_D a0 f1) s=some t){e:Env}{h:Heap}(hI:I115_1 a0 f1 dD lo s e h):W A c115_1 e h (P115_1 a0 f1 dD t):=by
 obtain⟨g_f1,fs_f1,cs_f1,hv_f1,hc_f1⟩:=id hf1;show W A (.block 0 (.loop false b115_1)) e h _;rw[qj];refine qz hF 0 (by obtain⟨_,rfl,_⟩:=hI; rfl) (I115_1 a0 f1 dD) hI ?_ ?_
 ·rintro aE _ e h ⟨k2,rfl,h_1⟩ hlt hw o ho
  unfold xU at ho;obtain⟨x4,dK,ho⟩:=bS ho;obtain⟨sI,sG⟩:=qg dK;obtain⟨x6,fH,ho⟩:=bS ho;have fx:∀h,mapO (frz h 16) (fs_f1++[iI x4]++cs_f1)=some (fs_f1++[iI x4]++cs_f1):=fun h=> hc_f1.zf x4 h;have fw:List.all (fs_f1++[iI x4]++cs_f1) (qo 16)=true:=hc_f1.zr x4;have w7c:ans A g_f1 (fs_f1++[iI x4]++cs_f1)=some (V.bool x6):=hc_f1.ka x4 _ fH;cases x6 with
  |true=>
   rw[if_pos rfl]at ho;cases ho;simp only[simprocAttr,R0,b115_1, *];intro ht; subst ht;simp only[simprocAttr,RR,RB];exact ai rfl (qc (by simp only[simprocAttr,R0,qe,p115,Rs.ev,qb, *]))
  |false=>
   rw[if_neg wD]at ho;cases ho;simp only[simprocAttr,R0,b115_1, *];refine ai rfl (ei _ (ai rfl ?_));simp only[simprocAttr,R0, *]
 ·rintro aE _ e h ⟨k2,rfl,h_1⟩ hge t1 ho
  unfold F115_1_D at ho;cases ho;simp only[simprocAttr,R0,b115_1, *];intro ht; subst ht;refine ai rfl (ei _ (ai rfl ?_));simp only[simprocAttr,R0, *]
theorem s115(a0:L1)(f1:Int→Option Bool){dD:V}(hf1:Clo1 A dD f1){r:Int}(hF:F115 a0 f1=some r):ans A 115 [iL a0,dD]=some (enc r):=by
 refine qv (f:=p115) rfl rfl rfl fun e hl he=>?_;have aA:=he 0 _ rfl;have aB:=he 1 _ rfl;obtain⟨g_f1,fs_f1,cs_f1,hv_f1,hc_f1⟩:=id hf1;have hl_0:e.length=19:=hl;clear he hl;have h_0:=ai hl_0 (ai aA aB);show W A b115 e ⟨[],0⟩ _;unfold F115 at hF;obtain⟨t8,oJ,hF⟩:=bS hF;rcases t8 with _|r9
 ·dsimp only at hF
  simp only[simprocAttr,R0,b115, *];refine W.mono (l115_1 a0 f1 dD hf1 oJ (ei _ (ai rfl ?_))) ?_
  ·simp only[simprocAttr,R0, *]
  rintro _ e _ ⟨rfl,k2,rfl,hl_3⟩;cases hF;simp only[simprocAttr,R0, *];exact qc (by simp only[simprocAttr,R0,qe,p115,Rs.ev,qb, *])
 ·dsimp only at hF
  cases hF;simp only[simprocAttr,R0,b115, *];refine W.mono (l115_1 a0 f1 dD hf1 oJ (ei _ (ai rfl ?_))) ?_
  ·simp only[simprocAttr,R0, *]
  rintro _ e h ⟨rfl,hq⟩;simp only[simprocAttr,RR,RB];exact hq
def F82(a0:L1)(f1:Int→Option Bool):Option Bool:=
 (F115 a0 f1).bind fun x1=>
 some (decide (0≤x1))
theorem s82(a0:L1)(f1:Int→Option Bool){dD:V}(hf1:Clo1 A dD f1){r:Bool}(hF:F82 a0 f1=some r):ans A 82 [iL a0,dD]=some (enc r):=by
 refine qv (f:=p82) rfl rfl rfl fun e hl he=>?_;have aA:=he 0 _ rfl;have aB:=he 1 _ rfl;obtain⟨g_f1,fs_f1,cs_f1,hv_f1,hc_f1⟩:=id hf1;have hl_0:e.length=9:=hl;clear he hl;show W A b82 e ⟨[],0⟩ _;unfold F82 at hF;obtain⟨x1,bI,hF⟩:=bS hF;have w2:ans A 115 [iL a0,dD]=some (iI x1):=s115 a0 f1 hf1 bI;cases hF;simp only[simprocAttr,R0,b82,hl_0,aA,aB,hf1.fz,hf1.rl,w2];exact qc (by simp only[simprocAttr,R0,qe,p82,Rs.ev,qb,hl_0,aA,aB,hf1.fz,hf1.rl,w2])
def F87(a0:L3):Option Int:=
 some (a0.length:Int)
theorem s87(a0:L3){r:Int}(hF:F87 a0=some r):ans A 87 [iL a0]=some (enc r):=by
 refine qv (f:=p87) rfl rfl rfl fun e hl he=>?_;have aA:=he 0 _ rfl;have hl_0:e.length=5:=hl;clear he hl;show W A b87 e ⟨[],0⟩ _;unfold F87 at hF;cases hF;simp only[simprocAttr,R0,b87, *];exact qc (by simp only[simprocAttr,R0,qe,p87,Rs.ev,qb, *])
def F88(a0:Int):Option Bool:=
 (F56 a0 0 8).bind fun x1=>
 some (!x1)
theorem s88(a0:Int){r:Bool}(hF:F88 a0=some r):ans A 88 [iI a0]=some (enc r):=by
 refine qv (f:=p88) rfl rfl rfl fun e hl he=>?_;have aA:=he 0 _ rfl;have hl_0:e.length=6:=hl;clear he hl;show W A b88 e ⟨[],0⟩ _;unfold F88 at hF;obtain⟨x1,bI,hF⟩:=bS hF;have w2:=s56 a0 0 8 bI;cases hF;simp only[simprocAttr,R0,b88, *];exact qc (by simp only[simprocAttr,R0,qe,p88,Rs.ev,qb, *])
def F89(a0:L2):Option Int:=
 some (a0.length:Int)
theorem s89(a0:L2){r:Int}(hF:F89 a0=some r):ans A 89 [iL a0]=some (enc r):=by
 refine qv (f:=p89) rfl rfl rfl fun e hl he=>?_;have aA:=he 0 _ rfl;have hl_0:e.length=5:=hl;clear he hl;show W A b89 e ⟨[],0⟩ _;unfold F89 at hF;cases hF;simp only[simprocAttr,R0,b89, *];exact qc (by simp only[simprocAttr,R0,qe,p89,Rs.ev,qb, *])
def F130(a0:Int)(d0:Int):Option Bool:=
 (chk (d0 - 1)).bind fun x1=>
 (F56 a0 0 x1).bind fun x2=>
 some (!x2)
theorem s130(a0:Int)(d0:Int){r:Bool}(hF:F130 a0 d0=some r):ans A 130 [iI a0,V.iptr [iI d0]]=some (enc r):=by
 refine qv (f:=p130) rfl rfl rfl fun e hl he=>?_;have aA:=he 0 _ rfl;have aB:=he 1 _ rfl;have hl_0:e.length=9:=hl;clear he hl;show W A b130 e ⟨[],0⟩ _;unfold F130 at hF;obtain⟨x1,bI,hF⟩:=bS hF;have fi:=qu bI;obtain⟨x2,fK,hF⟩:=bS hF;have w3:=s56 a0 0 x1 fK;cases hF;simp only[simprocAttr,R0,b130, *];exact qc (by simp only[simprocAttr,R0,qe,p130,Rs.ev,qb, *])
def F129(a0:Int)(a1:Int)(a2:L1):Option Bool:=
 if(a2.length:Int)=a1 then
  (F82 a2 (fun x=> F130 x a0)).bind fun x4=>
  some (!x4)
 else
  some false
theorem s129(a0:Int)(a1:Int)(a2:L1){r:Bool}(hF:F129 a0 a1 a2=some r):ans A 129 [iI a0,iI a1,iL a2]=some (enc r):=by
 refine qv (f:=p129) rfl rfl rfl fun e hl he=>?_;have aA:=he 0 _ rfl;have aB:=he 1 _ rfl;have aN:=he 2 _ rfl;have hl_0:e.length=17:=hl;clear he hl;have h_0:=ai hl_0 (ai aA (ai aB aN));show W A b129 e ⟨[],0⟩ _;unfold F129 at hF;have w2:ans A 73 [iL a2]=some (iI (a2.length:Int)):=s73 a2 rfl;by_cases c3:(a2.length:Int)=a1
 ·rw[if_pos c3]at hF
  obtain⟨x4,dK,hF⟩:=bS hF;have w5:ans A 82 [iL a2,V.fn 130 [] [V.iptr [iI a0]]]=some (V.bool x4):=s82 a2 (fun x=> F130 x a0) (Clo1.of (by intro h f; simp only[RZ,mapO]) (by intro h f; simp only[RZ,mapO]) (by intro f; simp only[RZ,RB]) (by intro f; simp only[RZ,RB]) (fun x _ hr=> s130 x a0 hr)) dK;cases hF;simp only[simprocAttr,R0,b129, *];exact qc (by simp only[simprocAttr,R0,qe,p129,Rs.ev,qb, *])
 ·rw[if_neg c3]at hF
  cases hF;simp only[simprocAttr,R0,b129, *];exact qc (by simp only[simprocAttr,R0,qe,p129,Rs.ev,qb, *])
def F116(a0:L1)(d0:Int)(d1:Int):Option Bool:=
 (F129 d0 d1 a0).bind fun x1=>
 some (!x1)
theorem s116(a0:L1)(d0:Int)(d1:Int){r:Bool}(hF:F116 a0 d0 d1=some r):ans A 116 [iL a0,V.iptr [iI d0],V.iptr [iI d1]]=some (enc r):=by
 refine qv (f:=p116) rfl rfl rfl fun e hl he=>?_;have aA:=he 0 _ rfl;have aB:=he 1 _ rfl;have aN:=he 2 _ rfl;have hl_0:e.length=10:=hl;clear he hl;show W A b116 e ⟨[],0⟩ _;unfold F116 at hF;obtain⟨x1,bI,hF⟩:=bS hF;have w2:=s129 d0 d1 a0 bI;cases hF;simp only[simprocAttr,R0,b116, *];exact qc (by simp only[simprocAttr,R0,qe,p116,Rs.ev,qb, *])
def xS(a0:L2)(f1:L1→Option Bool)(aE:Int)(s:Unit):Option ((Unit)⊕((Unit)⊕Int)):=
 (getI a0 aE).bind fun x4=>
(f1 x4).bind fun x6=>
if x6=true then
 some (.inr (.inr aE))
else
 some (.inl ())
def F128_1_D(a0:L2)(f1:L1→Option Bool)(aE:Int)(s:Unit):Option ((Unit)⊕Int):=
 some (.inl ())
def F128(a0:L2)(f1:L1→Option Bool):Option Int:=
 (forR 0 (a0.length:Int) (xS a0 f1) (F128_1_D a0 f1) ()).bind fun t8=> match t8 with
  | .inl _=>
   some (-1)
  | .inr r9=> some r9
def I128_1(a0:L2)(f1:L1→Option Bool)(dD:V)(aE:Int)(s:Unit)(e:Env)(h:Heap):Prop:=
 ∃k2:Nat,h=⟨[],k2⟩∧e.length=19∧e.at 0=iL a0∧e.at 1=dD∧e.at 7=iI (a0.length:Int)∧e.at 8=iI aE
def P128_1(a0:L2)(f1:L1→Option Bool)(dD:V)(t:(Unit)⊕Int)(x:Ex)(e:Env)(h:Heap):Prop:=
 match t with
 | .inl _=> x= .normal∧∃k2:Nat,h=⟨[],k2⟩∧e.length=19
 | .inr r=> x= .ret∧Fin p128 (enc r) .ret e h
theorem l128_1(a0:L2)(f1:L1→Option Bool)(dD:V)(hf1:Clo1 A dD f1){lo:Int}{s:Unit}{t:(Unit)⊕Int}(hF:forR lo (a0.length:Int) (xS a0 f1) (F128_1_D a0 f1) s=some t){e:Env}{h:Heap}(hI:I128_1 a0 f1 dD lo s e h):W A c128_1 e h (P128_1 a0 f1 dD t):=by
 obtain⟨g_f1,fs_f1,cs_f1,hv_f1,hc_f1⟩:=id hf1;show W A (.block 0 (.loop false b128_1)) e h _;rw[qj];refine qz hF 0 (by obtain⟨_,rfl,_⟩:=hI; rfl) (I128_1 a0 f1 dD) hI ?_ ?_
 ·rintro aE _ e h ⟨k2,rfl,h_1⟩ hlt hw o ho
  unfold xS at ho;obtain⟨x4,dK,ho⟩:=bS ho;obtain⟨sI,sG⟩:=qg dK;obtain⟨x6,fH,ho⟩:=bS ho;have fx:∀h,mapO (frz h 16) (fs_f1++[iL x4]++cs_f1)=some (fs_f1++[iL x4]++cs_f1):=fun h=> hc_f1.zf x4 h;have fw:List.all (fs_f1++[iL x4]++cs_f1) (qo 16)=true:=hc_f1.zr x4;have w7c:ans A g_f1 (fs_f1++[iL x4]++cs_f1)=some (V.bool x6):=hc_f1.ka x4 _ fH;cases x6 with
  |true=>
   rw[if_pos rfl]at ho;cases ho;simp only[simprocAttr,R0,b128_1, *];intro ht; subst ht;simp only[simprocAttr,RR,RB];exact ai rfl (qc (by simp only[simprocAttr,R0,qe,p128,Rs.ev,qb, *]))
  |false=>
   rw[if_neg wD]at ho;cases ho;simp only[simprocAttr,R0,b128_1, *];refine ai rfl (ei _ (ai rfl ?_));simp only[simprocAttr,R0, *]
 ·rintro aE _ e h ⟨k2,rfl,h_1⟩ hge t1 ho
  unfold F128_1_D at ho;cases ho;simp only[simprocAttr,R0,b128_1, *];intro ht; subst ht;refine ai rfl (ei _ (ai rfl ?_));simp only[simprocAttr,R0, *]
theorem s128(a0:L2)(f1:L1→Option Bool){dD:V}(hf1:Clo1 A dD f1){r:Int}(hF:F128 a0 f1=some r):ans A 128 [iL a0,dD]=some (enc r):=by
 refine qv (f:=p128) rfl rfl rfl fun e hl he=>?_;have aA:=he 0 _ rfl;have aB:=he 1 _ rfl;obtain⟨g_f1,fs_f1,cs_f1,hv_f1,hc_f1⟩:=id hf1;have hl_0:e.length=19:=hl;clear he hl;have h_0:=ai hl_0 (ai aA aB);show W A b128 e ⟨[],0⟩ _;unfold F128 at hF;obtain⟨t8,oJ,hF⟩:=bS hF;rcases t8 with _|r9
 ·dsimp only at hF
  simp only[simprocAttr,R0,b128, *];refine W.mono (l128_1 a0 f1 dD hf1 oJ (ei _ (ai rfl ?_))) ?_
  ·simp only[simprocAttr,R0, *]
  rintro _ e _ ⟨rfl,k2,rfl,hl_3⟩;cases hF;simp only[simprocAttr,R0, *];exact qc (by simp only[simprocAttr,R0,qe,p128,Rs.ev,qb, *])
 ·dsimp only at hF
  cases hF;simp only[simprocAttr,R0,b128, *];refine W.mono (l128_1 a0 f1 dD hf1 oJ (ei _ (ai rfl ?_))) ?_
  ·simp only[simprocAttr,R0, *]
  rintro _ e h ⟨rfl,hq⟩;simp only[simprocAttr,RR,RB];exact hq
def F117(a0:L2)(f1:L1→Option Bool):Option Bool:=
 (F128 a0 f1).bind fun x1=>
 some (decide (0≤x1))
theorem s117(a0:L2)(f1:L1→Option Bool){dD:V}(hf1:Clo1 A dD f1){r:Bool}(hF:F117 a0 f1=some r):ans A 117 [iL a0,dD]=some (enc r):=by
 refine qv (f:=p117) rfl rfl rfl fun e hl he=>?_;have aA:=he 0 _ rfl;have aB:=he 1 _ rfl;obtain⟨g_f1,fs_f1,cs_f1,hv_f1,hc_f1⟩:=id hf1;have hl_0:e.length=9:=hl;clear he hl;show W A b117 e ⟨[],0⟩ _;unfold F117 at hF;obtain⟨x1,bI,hF⟩:=bS hF;have w2:ans A 128 [iL a0,dD]=some (iI x1):=s128 a0 f1 hf1 bI;cases hF;simp only[simprocAttr,R0,b117,hl_0,aA,aB,hf1.fz,hf1.rl,w2];exact qc (by simp only[simprocAttr,R0,qe,p117,Rs.ev,qb,hl_0,aA,aB,hf1.fz,hf1.rl,w2])
def F90(a0:Int)(a1:Int)(a2:L2):Option Bool:=
 (F117 a2 (fun x=> F116 x a0 a1)).bind fun x1=>
 some (!x1)
theorem s90(a0:Int)(a1:Int)(a2:L2){r:Bool}(hF:F90 a0 a1 a2=some r):ans A 90 [iI a0,iI a1,iL a2]=some (enc r):=by
 refine qv (f:=p90) rfl rfl rfl fun e hl he=>?_;have aA:=he 0 _ rfl;have aB:=he 1 _ rfl;have aN:=he 2 _ rfl;have hl_0:e.length=11:=hl;clear he hl;show W A b90 e ⟨[],0⟩ _;unfold F90 at hF;obtain⟨x1,bI,hF⟩:=bS hF;have w2:ans A 117 [iL a2,V.fn 116 [] [V.iptr [iI a0],V.iptr [iI a1]]]=some (V.bool x1):=s117 a2 (fun x=> F116 x a0 a1) (Clo1.of (by intro h f; simp only[RZ,mapO]) (by intro h f; simp only[RZ,mapO]) (by intro f; simp only[RZ,RB]) (by intro f; simp only[RZ,RB]) (fun x _ hr=> s116 x a0 a1 hr)) bI;cases hF;simp only[simprocAttr,R0,b90, *];exact qc (by simp only[simprocAttr,R0,qe,p90,Rs.ev,qb, *])
def F118(a0:Int):Option Bool:=
 some (!(decide (a0=0)))
theorem s118(a0:Int){r:Bool}(hF:F118 a0=some r):ans A 118 [iI a0]=some (enc r):=by
 refine qv (f:=p118) rfl rfl rfl fun e hl he=>?_;have aA:=he 0 _ rfl;have hl_0:e.length=5:=hl;clear he hl;show W A b118 e ⟨[],0⟩ _;unfold F118 at hF;cases hF;simp only[simprocAttr,R0,b118, *];exact qc (by simp only[simprocAttr,R0,qe,p118,Rs.ev,qb, *])
def F92(a0:L1):Option Bool:=
 (F82 a0 (fun x=> F118 x)).bind fun x1=>
 some (!x1)
theorem s92(a0:L1){r:Bool}(hF:F92 a0=some r):ans A 92 [iL a0]=some (enc r):=by
 refine qv (f:=p92) rfl rfl rfl fun e hl he=>?_;have aA:=he 0 _ rfl;have hl_0:e.length=6:=hl;clear he hl;show W A b92 e ⟨[],0⟩ _;unfold F92 at hF;obtain⟨x1,bI,hF⟩:=bS hF;have w2:ans A 82 [iL a0,V.fn 118 [] []]=some (V.bool x1):=s82 a0 (fun x=> F118 x) (Clo1.of (by intro h f; simp only[RZ,mapO]) (by intro h f; simp only[RZ,mapO]) (by intro f; simp only[RZ,RB]) (by intro f; simp only[RZ,RB]) (fun x _ hr=> s118 x hr)) bI;cases hF;simp only[simprocAttr,R0,b92, *];exact qc (by simp only[simprocAttr,R0,qe,p92,Rs.ev,qb, *])
def F42_1_B(a0:qa)(fN:Int)(s:Unit):Option ((Unit)⊕((Unit)⊕Bool)):=
 (getI a0.M fN).bind fun cQ=>
(getI a0.D (fN+1)).bind fun eA=>
if(cQ.length:Int)=eA then
 (getI a0.D fN).bind fun dZ=>
 (F90 a0.P dZ cQ).bind fun iG=>
 if iG=true then
  some (.inl ())
 else
  some (.inr (.inr false))
else
 some (.inr (.inr false))
def F42_1_D(a0:qa)(fN:Int)(s:Unit):Option ((Unit)⊕Bool):=
 some (.inl ())
def F42_3_B(a0:qa)(bK:Int)(eW:L2)(iN:Int)(s:Unit):Option ((Unit)⊕((Unit)⊕Bool)):=
 (getI eW iN).bind fun lF=>
(chk (bK - 1)).bind fun mD=>
(F91 a0 mD lF).bind fun lJ=>
(F92 lJ).bind fun rW=>
if rW=true then
 some (.inl ())
else
 some (.inr (.inr false))
def F42_3_D(a0:qa)(bK:Int)(eW:L2)(iN:Int)(s:Unit):Option ((Unit)⊕Bool):=
 some (.inl ())
def F42_2_S(a0:qa)(bK:Int):Option ((Int)⊕((Unit)⊕Bool)):=
 (F86 a0).bind fun cW=>
if bK≤cW then
 (chk (bK - 1)).bind fun fU=>
 (getI a0.M fU).bind fun eW=>
 (forR 0 (eW.length:Int) (F42_3_B a0 bK eW) (F42_3_D a0 bK eW) ()).bind fun tA=> match tA with
  | .inl _=>
   (chk (bK+1)).bind fun pK=>
   some (.inl pK)
  | .inr r48=> some (.inr (.inr r48))
else
 some (.inr (.inl ()))
def F42(a0:qa):Option Bool:=
 (F67 a0.P).bind fun x1=>
 if x1=true then
  (F86 a0).bind fun x3=>
  (F56 x3 0 5).bind fun x5=>
  if x5=true then
   if(a0.M.length:Int)=x3 then
    (F82 a0.D (fun x=> F88 x)).bind fun dI=>
    if dI=true then
     some false
    else
     (forR 0 (a0.M.length:Int) (F42_1_B a0) (F42_1_D a0) ()).bind fun tC=> match tC with
      | .inl _=>
       (qA (F42_2_S a0) 2).bind fun ks=> match ks with
        | .inl _=>
         some true
        | .inr v6=> some v6
      | .inr r51=> some r51
   else
    some false
  else
   some false
 else
  some false
def I42_1(a0:qa)(fN:Int)(s:Unit)(e:Env)(h:Heap):Prop:=
 ∃mX:Nat,h=⟨[(0,none)],mX⟩∧e.length=86∧e.at 1=eP a0∧e.at 32=iL a0.M∧e.at 33=iI (a0.M.length:Int)∧e.at 34=iI fN
def P42_1(a0:qa)(t:(Unit)⊕Bool)(x:Ex)(e:Env)(h:Heap):Prop:=
 match t with
 | .inl _=> x= .normal∧∃mX:Nat,h=⟨[(0,none)],mX⟩∧e.length=86∧e.at 1=eP a0
 | .inr r=> x= .ret∧Fin p42 (enc r) .ret e h
theorem l42_1(a0:qa){lo:Int}{s:Unit}{t:(Unit)⊕Bool}(hF:forR lo (a0.M.length:Int) (F42_1_B a0) (F42_1_D a0) s=some t){e:Env}{h:Heap}(hI:I42_1 a0 lo s e h):W A c42_1 e h (P42_1 a0 t):=by
 show W A (.block 0 (.loop false b42_1)) e h _;rw[qj];refine qz hF 1 (by obtain⟨_,rfl,_⟩:=hI; rfl) (I42_1 a0) hI ?_ ?_
 ·rintro fN _ e h ⟨mX,rfl,h_12⟩ hlt hw o ho
  unfold F42_1_B at ho;obtain⟨cQ,dP,ho⟩:=bS ho;obtain⟨kP,iX⟩:=qg dP;have kg:=s89 cQ rfl;obtain⟨eA,dV,ho⟩:=bS ho;obtain⟨r7,r6⟩:=qg dV;by_cases rS:(cQ.length:Int)=eA
  ·rw[if_pos rS]at ho
   obtain⟨dZ,kG,ho⟩:=bS ho;obtain⟨sK,sJ⟩:=qg kG;obtain⟨iG,kF,ho⟩:=bS ho;have w25:=s90 a0.P dZ cQ kF;cases iG with
   |true=>
    rw[if_pos rfl]at ho;cases ho;simp only[simprocAttr,R0,b42_1, *];refine ai rfl (ei _ (ai rfl ?_));simp only[simprocAttr,R0, *]
   |false=>
    rw[if_neg wD]at ho;cases ho;simp only[simprocAttr,R0,b42_1, *];intro ht; subst ht;simp only[simprocAttr,RR,RB];exact ai rfl (qc (by simp only[simprocAttr,R0,qe,p42,Rs.ev,qb, *]))
  ·rw[if_neg rS]at ho
   cases ho;simp only[simprocAttr,R0,b42_1, *];intro ht; subst ht;simp only[simprocAttr,RR,RB];exact ai rfl (qc (by simp only[simprocAttr,R0,qe,p42,Rs.ev,qb, *]))
 ·rintro fN _ e h ⟨mX,rfl,h_12⟩ hge t1 ho
  unfold F42_1_D at ho;cases ho;simp only[simprocAttr,R0,b42_1, *];intro ht; subst ht;refine ai rfl (ei _ (ai rfl ?_));simp only[simprocAttr,R0, *]
def I42_3(a0:qa)(bK:Int)(eW:L2)(iN:Int)(s:Unit)(e:Env)(h:Heap):Prop:=
 ∃i7:Nat,h=⟨[(0,none)],i7⟩∧e.length=86∧e.at 1=eP a0∧e.at 5=iI bK∧e.at 72=iL eW∧e.at 73=iI (eW.length:Int)∧e.at 74=iI iN
def P42_3(a0:qa)(bK:Int)(eW:L2)(t:(Unit)⊕Bool)(x:Ex)(e:Env)(h:Heap):Prop:=
 match t with
 | .inl _=> x= .normal∧∃i7:Nat,h=⟨[(0,none)],i7⟩∧e.length=86∧e.at 1=eP a0∧e.at 5=iI bK
 | .inr r=> x= .ret∧Fin p42 (enc r) .ret e h
theorem l42_3(a0:qa)(bK:Int)(eW:L2){lo:Int}{s:Unit}{t:(Unit)⊕Bool}(hF:forR lo (eW.length:Int) (F42_3_B a0 bK eW) (F42_3_D a0 bK eW) s=some t){e:Env}{h:Heap}(hI:I42_3 a0 bK eW lo s e h):W A c42_3 e h (P42_3 a0 bK eW t):=by
 show W A (.block 4 (.loop false b42_3)) e h _;rw[qj];refine qz hF 1 (by obtain⟨_,rfl,_⟩:=hI; rfl) (I42_3 a0 bK eW) hI ?_ ?_
 ·rintro iN _ e h ⟨i7,rfl,h_36⟩ hlt hw o ho
  unfold F42_3_B at ho;obtain⟨lF,kD,ho⟩:=bS ho;obtain⟨ie,ic⟩:=qg kD;obtain⟨mD,lT,ho⟩:=bS ho;have fa:=qu lT;obtain⟨lJ,lS,ho⟩:=bS ho;have w43:=s91 a0 mD lF lS;obtain⟨rW,uM,ho⟩:=bS ho;have w45:=s92 lJ uM;cases rW with
  |true=>
   rw[if_pos rfl]at ho;cases ho;simp only[simprocAttr,R0,b42_3, *];refine ai rfl (ei _ (ai rfl ?_));simp only[simprocAttr,R0, *]
  |false=>
   rw[if_neg wD]at ho;cases ho;simp only[simprocAttr,R0,b42_3, *];intro ht; subst ht;simp only[simprocAttr,RR,RB];exact ai rfl (qc (by simp only[simprocAttr,R0,qe,p42,Rs.ev,qb, *]))
 ·rintro iN _ e h ⟨i7,rfl,h_36⟩ hge t1 ho
  unfold F42_3_D at ho;cases ho;simp only[simprocAttr,R0,b42_3, *];intro ht; subst ht;refine ai rfl (ei _ (ai rfl ?_));simp only[simprocAttr,R0, *]
def I42_2(a0:qa)(bK:Int)(e:Env)(h:Heap):Prop:=
 ∃mV:Nat,h=⟨[(0,none)],mV⟩∧e.length=86∧e.at 1=eP a0∧e.at 5=iI bK
def P42_2(a0:qa)(t:(Unit)⊕Bool)(x:Ex)(e:Env)(h:Heap):Prop:=
 match t with
 | .inl _=> x= .normal∧∃mV:Nat,h=⟨[(0,none)],mV⟩∧e.length=86
 | .inr r=> x= .ret∧Fin p42 (enc r) .ret e h
theorem l42_2(a0:qa){s:Int}{t:(Unit)⊕Bool}(hF:qA (F42_2_S a0) s=some t){e:Env}{h:Heap}(hI:I42_2 a0 s e h):W A c42_2 e h (P42_2 a0 t):=by
 show W A (.block 2 (.loop false b42_2)) e h _;rw[qj];refine zi hF 1 (by obtain⟨_,rfl,_⟩:=hI; rfl) (I42_2 a0) hI ?_
 ·rintro bK e h ⟨mV,rfl,h_27⟩ o ho
  unfold F42_2_S at ho;obtain⟨cW,fB,ho⟩:=bS ho;have o8:=s86 a0 fB;by_cases rQ:bK≤cW
  ·rw[if_pos rQ]at ho
   obtain⟨fU,iA,ho⟩:=bS ho;have m4:=qu iA;obtain⟨eW,lV,ho⟩:=bS ho;obtain⟨io,il⟩:=qg lV;obtain⟨tA,oK,ho⟩:=bS ho;rcases tA with _|r48
   ·dsimp only at ho
    simp only[simprocAttr,R0,b42_2, *];refine W.mono (l42_3 a0 bK eW oK (ei _ (ai rfl ?_))) ?_
    ·simp only[simprocAttr,R0, *]
    rintro _ e _ ⟨rfl,i7,rfl,h_38⟩;obtain⟨pK,nZ,ho⟩:=bS ho;have wx47:=qu nZ;cases ho;simp only[simprocAttr,R0, *];refine ai rfl (ei _ (ai rfl ?_));simp only[simprocAttr,R0, *]
   ·dsimp only at ho
    cases ho;simp only[simprocAttr,R0,b42_2, *];refine W.mono (l42_3 a0 bK eW oK (ei _ (ai rfl ?_))) ?_
    ·simp only[simprocAttr,R0, *]
    rintro _ e h ⟨rfl,hq⟩;simp only[simprocAttr,RR,RB];intro ht; subst ht;simp only[simprocAttr,RR,RB];exact ai rfl hq
  ·rw[if_neg rQ]at ho
   cases ho;simp only[simprocAttr,R0,b42_2, *];intro ht; subst ht;simp only[simprocAttr,RR,RB];refine ai rfl (ei _ (ai rfl ?_));simp only[simprocAttr,R0, *]
set_option maxHeartbeats 8000000 in
theorem s42(a0:qa){r:Bool}(hF:F42 a0=some r):ans A 42 [(eC a0)]=some (enc r):=by
 refine qv (f:=p42) rfl rfl rfl fun e hl he=>?_;have aA:=he 0 _ rfl;have hl_0:e.length=86:=hl;clear he hl;have h_0:=ai hl_0 aA;show W A b42 e ⟨[],0⟩ _;unfold F42 at hF;obtain⟨x1,bI,hF⟩:=bS hF;have w2:ans A 67 [iI a0.P]=some (V.bool x1):=s67 a0.P bI;cases x1 with
 |true=>
  rw[if_pos rfl]at hF;obtain⟨x3,dO,hF⟩:=bS hF;have w4:ans A 86 [(eC a0)]=some (iI x3):=s86 a0 dO;obtain⟨x5,dC,hF⟩:=bS hF;have w6:ans A 56 [iI x3,iI 0,iI 5]=some (V.bool x5):=s56 x3 0 5 dC;cases x5 with
  |true=>
   rw[if_pos rfl]at hF;have w8:ans A 87 [iL a0.M]=some (iI (a0.M.length:Int)):=s87 a0.M rfl;by_cases c9:(a0.M.length:Int)=x3
   ·rw[if_pos c9]at hF
    obtain⟨dI,dY,hF⟩:=bS hF;have pP:ans A 82 [iL a0.D,V.fn 88 [] []]=some (V.bool dI):=s82 a0.D (fun x=> F88 x) (Clo1.of (by intro h f; simp only[RZ,mapO]) (by intro h f; simp only[RZ,mapO]) (by intro f; simp only[RZ,RB]) (by intro f; simp only[RZ,RB]) (fun x _ hr=> s88 x hr)) dY;cases dI with
    |true=>
     rw[if_pos rfl]at hF;cases hF;simp only[simprocAttr,R0,b42, *];exact qc (by simp only[simprocAttr,R0,qe,p42,Rs.ev,qb, *])
    |false=>
     rw[if_neg wD]at hF;obtain⟨tC,kI,hF⟩:=bS hF;rcases tC with _|r51
     ·dsimp only at hF
      simp only[simprocAttr,R0,b42, *];refine W.mono (l42_1 a0 kI (ei _ (ai rfl ?_))) ?_
      ·simp only[simprocAttr,R0, *]
      rintro _ e _ ⟨rfl,mX,rfl,h_14⟩;obtain⟨ks,bg,hF⟩:=bS hF;rcases ks with _|v6
      ·dsimp only at hF
       simp only[simprocAttr,R0, *];refine W.mono (l42_2 a0 bg (ei _ (ai rfl ?_))) ?_
       ·simp only[simprocAttr,R0, *]
       rintro _ e _ ⟨rfl,mV,rfl,hl_29⟩;cases hF;simp only[simprocAttr,R0, *];exact qc (by simp only[simprocAttr,R0,qe,p42,Rs.ev,qb, *])
      ·dsimp only at hF
       cases hF;simp only[simprocAttr,R0, *];refine W.mono (l42_2 a0 bg (ei _ (ai rfl ?_))) ?_
       ·simp only[simprocAttr,R0, *]
       rintro _ e h ⟨rfl,hq⟩;simp only[simprocAttr,RR,RB];exact hq
     ·dsimp only at hF
      cases hF;simp only[simprocAttr,R0,b42, *];refine W.mono (l42_1 a0 kI (ei _ (ai rfl ?_))) ?_
      ·simp only[simprocAttr,R0, *]
      rintro _ e h ⟨rfl,hq⟩;simp only[simprocAttr,RR,RB];exact hq
   ·rw[if_neg c9]at hF
    cases hF;simp only[simprocAttr,R0,b42, *];exact qc (by simp only[simprocAttr,R0,qe,p42,Rs.ev,qb, *])
  |false=>
   rw[if_neg wD]at hF;cases hF;simp only[simprocAttr,R0,b42, *];exact qc (by simp only[simprocAttr,R0,qe,p42,Rs.ev,qb, *])
 |false=>
  rw[if_neg wD]at hF;cases hF;simp only[simprocAttr,R0,b42, *];exact qc (by simp only[simprocAttr,R0,qe,p42,Rs.ev,qb, *])
def xk(a0:List qa)(aL:Int)(s:Unit):Option ((Unit)⊕((Unit)⊕Int)):=
 (getI a0 aL).bind fun x4=>
(F42 x4).bind fun x6=>
if x6=true then
 some (.inl ())
else
 some (.inr (.inr 1))
def F305_1_D(a0:List qa)(aL:Int)(s:Unit):Option ((Unit)⊕Int):=
 some (.inl ())
def xj(a0:List qa)(iQ:Int)(s:Unit):Option ((Unit)⊕((Unit)⊕Int)):=
 (getI a0 iQ).bind fun dG=>
(getI a0 0).bind fun cO=>
if dG.P=cO.P then
 if(dG.D.length:Int)=(cO.D.length:Int)then
  some (.inl ())
 else
  some (.inr (.inr 2))
else
 some (.inr (.inr 2))
def F305_2_D(a0:List qa)(iQ:Int)(s:Unit):Option ((Unit)⊕Int):=
 some (.inl ())
def F305(a0:List qa):Option Int:=
 (forR 0 (a0.length:Int) (xk a0) (F305_1_D a0) ()).bind fun t8=> match t8 with
  | .inl _=>
   (forR 0 (a0.length:Int) (xj a0) (F305_2_D a0) ()).bind fun lh=> match lh with
    | .inl _=>
     some 0
    | .inr r19=> some r19
  | .inr r20=> some r20
def I305_1(a0:List qa)(aL:Int)(s:Unit)(e:Env)(h:Heap):Prop:=
 ∃k2:Nat,h=⟨[],k2⟩∧e.length=42∧e.at 0=iL a0∧e.at 7=iL a0∧e.at 8=iI (a0.length:Int)∧e.at 9=iI aL
def P305_1(a0:List qa)(t:(Unit)⊕Int)(x:Ex)(e:Env)(h:Heap):Prop:=
 match t with
 | .inl _=> x= .normal∧∃k2:Nat,h=⟨[],k2⟩∧e.length=42∧e.at 0=iL a0
 | .inr r=> x= .ret∧Fin p305 (enc r) .ret e h
theorem l305_1(a0:List qa){lo:Int}{s:Unit}{t:(Unit)⊕Int}(hF:forR lo (a0.length:Int) (xk a0) (F305_1_D a0) s=some t){e:Env}{h:Heap}(hI:I305_1 a0 lo s e h):W A c305_1 e h (P305_1 a0 t):=by
 show W A (.block 0 (.loop false b305_1)) e h _;rw[qj];refine qz hF 0 (by obtain⟨_,rfl,_⟩:=hI; rfl) (I305_1 a0) hI ?_ ?_
 ·rintro aL _ e h ⟨k2,rfl,h_1⟩ hlt hw o ho
  unfold xk at ho;obtain⟨x4,dK,ho⟩:=bS ho;obtain⟨sI,sG⟩:=qg dK;obtain⟨x6,fH,ho⟩:=bS ho;have w7:=s42 x4 fH;cases x6 with
  |true=>
   rw[if_pos rfl]at ho;cases ho;simp only[simprocAttr,R0,b305_1, *];refine ai rfl (ei _ (ai rfl ?_));simp only[simprocAttr,R0, *]
  |false=>
   rw[if_neg wD]at ho;cases ho;simp only[simprocAttr,R0,b305_1, *];intro ht; subst ht;simp only[simprocAttr,RR,RB];exact ai rfl (qc (by simp only[simprocAttr,R0,qe,p305,Rs.ev,qb, *]))
 ·rintro aL _ e h ⟨k2,rfl,h_1⟩ hge t1 ho
  unfold F305_1_D at ho;cases ho;simp only[simprocAttr,R0,b305_1, *];intro ht; subst ht;refine ai rfl (ei _ (ai rfl ?_));simp only[simprocAttr,R0, *]
def I305_2(a0:List qa)(iQ:Int)(s:Unit)(e:Env)(h:Heap):Prop:=
 ∃kB:Nat,h=⟨[],kB⟩∧e.length=42∧e.at 0=iL a0∧e.at 17=iL a0∧e.at 18=iI (a0.length:Int)∧e.at 19=iI iQ
def P305_2(a0:List qa)(t:(Unit)⊕Int)(x:Ex)(e:Env)(h:Heap):Prop:=
 match t with
 | .inl _=> x= .normal∧∃kB:Nat,h=⟨[],kB⟩∧e.length=42
 | .inr r=> x= .ret∧Fin p305 (enc r) .ret e h
theorem l305_2(a0:List qa){lo:Int}{s:Unit}{t:(Unit)⊕Int}(hF:forR lo (a0.length:Int) (xj a0) (F305_2_D a0) s=some t){e:Env}{h:Heap}(hI:I305_2 a0 lo s e h):W A c305_2 e h (P305_2 a0 t):=by
 show W A (.block 2 (.loop false b305_2)) e h _;rw[qj];refine qz hF 0 (by obtain⟨_,rfl,_⟩:=hI; rfl) (I305_2 a0) hI ?_ ?_
 ·rintro iQ _ e h ⟨kB,rfl,h_9⟩ hlt hw o ho
  unfold xj at ho;obtain⟨dG,dQ,ho⟩:=bS ho;obtain⟨s7,sS⟩:=qg dQ;obtain⟨cO,eF,ho⟩:=bS ho;obtain⟨kQ,iH⟩:=qg eF;replace iH:a0[0]? =some cO:=iH;by_cases cu:dG.P=cO.P
  ·rw[if_pos cu]at ho
   by_cases rT:(dG.D.length:Int)=(cO.D.length:Int)
   ·rw[if_pos rT]at ho
    cases ho;simp only[simprocAttr,R0,b305_2, *];refine ai rfl (ei _ (ai rfl ?_));simp only[simprocAttr,R0, *]
   ·rw[if_neg rT]at ho
    cases ho;simp only[simprocAttr,R0,b305_2, *];intro ht; subst ht;simp only[simprocAttr,RR,RB];exact ai rfl (qc (by simp only[simprocAttr,R0,qe,p305,Rs.ev,qb, *]))
  ·rw[if_neg cu]at ho
   cases ho;simp only[simprocAttr,R0,b305_2, *];intro ht; subst ht;simp only[simprocAttr,RR,RB];exact ai rfl (qc (by simp only[simprocAttr,R0,qe,p305,Rs.ev,qb, *]))
 ·rintro iQ _ e h ⟨kB,rfl,h_9⟩ hge t1 ho
  unfold F305_2_D at ho;cases ho;simp only[simprocAttr,R0,b305_2, *];intro ht; subst ht;refine ai rfl (ei _ (ai rfl ?_));simp only[simprocAttr,R0, *]
theorem s305(a0:List qa){r:Int}(hF:F305 a0=some r):ans A 305 [iL a0]=some (enc r):=by
 refine qv (f:=p305) rfl rfl rfl fun e hl he=>?_;have aA:=he 0 _ rfl;have hl_0:e.length=42:=hl;clear he hl;have h_0:=ai hl_0 aA;show W A b305 e ⟨[],0⟩ _;unfold F305 at hF;obtain⟨t8,oJ,hF⟩:=bS hF;rcases t8 with _|r20
 ·dsimp only at hF
  simp only[simprocAttr,R0,b305, *];refine W.mono (l305_1 a0 oJ (ei _ (ai rfl ?_))) ?_
  ·simp only[simprocAttr,R0, *]
  rintro _ e _ ⟨rfl,k2,rfl,h_3⟩;obtain⟨lh,bm,hF⟩:=bS hF;rcases lh with _|r19
  ·dsimp only at hF
   simp only[simprocAttr,R0, *];refine W.mono (l305_2 a0 bm (ei _ (ai rfl ?_))) ?_
   ·simp only[simprocAttr,R0, *]
   rintro _ e _ ⟨rfl,kB,rfl,hl_11⟩;cases hF;simp only[simprocAttr,R0, *];exact qc (by simp only[simprocAttr,R0,qe,p305,Rs.ev,qb, *])
  ·dsimp only at hF
   cases hF;simp only[simprocAttr,R0, *];refine W.mono (l305_2 a0 bm (ei _ (ai rfl ?_))) ?_
   ·simp only[simprocAttr,R0, *]
   rintro _ e h ⟨rfl,hq⟩;simp only[simprocAttr,RR,RB];exact hq
 ·dsimp only at hF
  cases hF;simp only[simprocAttr,R0,b305, *];refine W.mono (l305_1 a0 oJ (ei _ (ai rfl ?_))) ?_
  ·simp only[simprocAttr,R0, *]
  rintro _ e h ⟨rfl,hq⟩;simp only[simprocAttr,RR,RB];exact hq
def xO(a0:qa)(a1:qa)(a2:L3)(a3:Int)(fO:Int)(s:Unit):Option ((Unit)⊕((Unit)⊕Bool)):=
 (getI a2 fO).bind fun x5=>
(getI a0.D fO).bind fun x9=>
if(x5.length:Int)=x9 then
 (chk (fO+a3)).bind fun dG=>
 (F102 a1 dG).bind fun bD=>
 (F90 a0.P bD x5).bind fun cQ=>
 if cQ=true then
  some (.inl ())
 else
  some (.inr (.inr false))
else
 some (.inr (.inr false))
def F313_1_D(a0:qa)(a1:qa)(a2:L3)(a3:Int)(fO:Int)(s:Unit):Option ((Unit)⊕Bool):=
 some (.inl ())
def F313(a0:qa)(a1:qa)(a2:L3)(a3:Int):Option Bool:=
 if(a2.length:Int)=(a0.D.length:Int)then
  (forR 0 (a2.length:Int) (xO a0 a1 a2 a3) (F313_1_D a0 a1 a2 a3) ()).bind fun li=> match li with
   | .inl _=>
    some true
   | .inr r18=> some r18
 else
  some false
def I313_1(a0:qa)(a1:qa)(a2:L3)(a3:Int)(fO:Int)(s:Unit)(e:Env)(h:Heap):Prop:=
 ∃k3:Nat,h=⟨[(0,none),(0,none)],k3⟩∧e.length=45∧e.at 3=iI a3∧e.at 4=eP a0∧e.at 5=eP a1∧e.at 17=iL a2∧e.at 18=iI (a2.length:Int)∧e.at 19=iI fO
def P313_1(a0:qa)(a1:qa)(a2:L3)(a3:Int)(t:(Unit)⊕Bool)(x:Ex)(e:Env)(h:Heap):Prop:=
 match t with
 | .inl _=> x= .normal∧∃k3:Nat,h=⟨[(0,none),(0,none)],k3⟩∧e.length=45
 | .inr r=> x= .ret∧Fin p313 (enc r) .ret e h
theorem l313_1(a0:qa)(a1:qa)(a2:L3)(a3:Int){lo:Int}{s:Unit}{t:(Unit)⊕Bool}(hF:forR lo (a2.length:Int) (xO a0 a1 a2 a3) (F313_1_D a0 a1 a2 a3) s=some t){e:Env}{h:Heap}(hI:I313_1 a0 a1 a2 a3 lo s e h):W A c313_1 e h (P313_1 a0 a1 a2 a3 t):=by
 show W A (.block 0 (.loop false b313_1)) e h _;rw[qj];refine qz hF 2 (by obtain⟨_,rfl,_⟩:=hI; rfl) (I313_1 a0 a1 a2 a3) hI ?_ ?_
 ·rintro fO _ e h ⟨k3,rfl,h_2⟩ hlt hw o ho
  unfold xO at ho;obtain⟨x5,dC,ho⟩:=bS ho;obtain⟨iE,iD⟩:=qg dC;have w8:=s89 x5 rfl;obtain⟨x9,eJ,ho⟩:=bS ho;obtain⟨iZ,iK⟩:=qg eJ;by_cases c11:(x5.length:Int)=x9
  ·rw[if_pos c11]at ho
   obtain⟨dG,dQ,ho⟩:=bS ho;have pM:=qu dQ;obtain⟨bD,cD,ho⟩:=bS ho;have mT:=s102 a1 dG cD;obtain⟨cQ,dP,ho⟩:=bS ho;have f0:=s90 a0.P bD x5 dP;cases cQ with
   |true=>
    rw[if_pos rfl]at ho;cases ho;simp only[simprocAttr,R0,b313_1, *];refine ai rfl (ei _ (ai rfl ?_));simp only[simprocAttr,R0, *]
   |false=>
    rw[if_neg wD]at ho;cases ho;simp only[simprocAttr,R0,b313_1, *];intro ht; subst ht;simp only[simprocAttr,RR,RB];exact ai rfl (qc (by simp only[simprocAttr,R0,qe,p313,Rs.ev,qb, *]))
  ·rw[if_neg c11]at ho
   cases ho;simp only[simprocAttr,R0,b313_1, *];intro ht; subst ht;simp only[simprocAttr,RR,RB];exact ai rfl (qc (by simp only[simprocAttr,R0,qe,p313,Rs.ev,qb, *]))
 ·rintro fO _ e h ⟨k3,rfl,h_2⟩ hge t1 ho
  unfold F313_1_D at ho;cases ho;simp only[simprocAttr,R0,b313_1, *];intro ht; subst ht;refine ai rfl (ei _ (ai rfl ?_));simp only[simprocAttr,R0, *]
theorem s313(a0:qa)(a1:qa)(a2:L3)(a3:Int){r:Bool}(hF:F313 a0 a1 a2 a3=some r):ans A 313 [(eC a0),(eC a1),iL a2,iI a3]=some (enc r):=by
 refine qv (f:=p313) rfl rfl rfl fun e hl he=>?_;have aA:=he 0 _ rfl;have aB:=he 1 _ rfl;have aN:=he 2 _ rfl;have bR:=he 3 _ rfl;have hl_0:e.length=45:=hl;clear he hl;have h_0:=ai hl_0 (ai aA (ai aB (ai aN bR)));show W A b313 e ⟨[],0⟩ _;unfold F313 at hF;by_cases c1:(a2.length:Int)=(a0.D.length:Int)
 ·rw[if_pos c1]at hF
  obtain⟨li,lA,hF⟩:=bS hF;rcases li with _|r18
  ·dsimp only at hF
   simp only[simprocAttr,R0,b313, *];refine W.mono (l313_1 a0 a1 a2 a3 lA (ei _ (ai rfl ?_))) ?_
   ·simp only[simprocAttr,R0, *]
   rintro _ e _ ⟨rfl,k3,rfl,hl_4⟩;cases hF;simp only[simprocAttr,R0, *];exact qc (by simp only[simprocAttr,R0,qe,p313,Rs.ev,qb, *])
  ·dsimp only at hF
   cases hF;simp only[simprocAttr,R0,b313, *];refine W.mono (l313_1 a0 a1 a2 a3 lA (ei _ (ai rfl ?_))) ?_
   ·simp only[simprocAttr,R0, *]
   rintro _ e h ⟨rfl,hq⟩;simp only[simprocAttr,RR,RB];exact hq
 ·rw[if_neg c1]at hF
  cases hF;simp only[simprocAttr,R0,b313, *];exact qc (by simp only[simprocAttr,R0,qe,p313,Rs.ev,qb, *])
def F306(a0:L3)(d0:qa)(d1:qa):Option Bool:=
 (F313 d0 d1 a0 0).bind fun x1=>
 some (!x1)
theorem s306(a0:L3)(d0:qa)(d1:qa){r:Bool}(hF:F306 a0 d0 d1=some r):ans A 306 [iL a0,eP d0,eP d1]=some (enc r):=by
 refine qv (f:=p306) rfl rfl rfl fun e hl he=>?_;have aA:=he 0 _ rfl;have aB:=he 1 _ rfl;have aN:=he 2 _ rfl;have hl_0:e.length=10:=hl;clear he hl;show W A b306 e ⟨[],0⟩ _;unfold F306 at hF;obtain⟨x1,bI,hF⟩:=bS hF;have w2:=s313 d0 d1 a0 0 bI;cases hF;simp only[simprocAttr,R0,b306, *];exact qc (by simp only[simprocAttr,R0,qe,p306,Rs.ev,qb, *])
def F274(a0:qa)(a1:qa)(a2:List L3):Option Int:=
 (F305 [a0,a1]).bind fun x1=>
 if x1=0 then
  (F276 a2 (fun x=> F306 x a0 a1)).bind fun x4=>
  if x4=true then
   some 2
  else
   some x1
 else
  some x1
theorem s274(a0:qa)(a1:qa)(a2:List L3){r:Int}(hF:F274 a0 a1 a2=some r):ans A 274 [(eC a0),(eC a1),iL a2]=some (enc r):=by
 refine qv (f:=p274) rfl rfl rfl fun e hl he=>?_;have aA:=he 0 _ rfl;have aB:=he 1 _ rfl;have aN:=he 2 _ rfl;have hl_0:e.length=20:=hl;clear he hl;have h_0:=ai hl_0 (ai aA (ai aB aN));show W A b274 e ⟨[],0⟩ _;unfold F274 at hF;obtain⟨x1,bI,hF⟩:=bS hF;have w2:ans A 305 [V.isl [(eC a0),(eC a1)]]=some (iI x1):=s305 [a0,a1] bI;by_cases c3:x1=0
 ·rw[if_pos c3]at hF
  obtain⟨x4,dK,hF⟩:=bS hF;have w5:ans A 276 [iL a2,V.fn 306 [] [eP a0,eP a1]]=some (V.bool x4):=s276 a2 (fun x=> F306 x a0 a1) (Clo1.of (by intro h f; simp only[RZ,mapO]) (by intro h f; simp only[RZ,mapO]) (by intro f; simp only[RZ,RB]) (by intro f; simp only[RZ,RB]) (fun x _ hr=> s306 x a0 a1 hr)) dK;cases x4 with
  |true=>
   rw[if_pos rfl]at hF;cases hF;simp only[simprocAttr,R0,b274, *];exact qc (by simp only[simprocAttr,R0,qe,p274,Rs.ev,qb, *])
  |false=>
   rw[if_neg wD]at hF;cases hF;simp only[simprocAttr,R0,b274, *];exact qc (by simp only[simprocAttr,R0,qe,p274,Rs.ev,qb, *])
 ·rw[if_neg c3]at hF
  cases hF;simp only[simprocAttr,R0,b274, *];exact qc (by simp only[simprocAttr,R0,qe,p274,Rs.ev,qb, *])
def F309(a0:qa)(a1:qa)(a2:L3)(a3:Int)(a4:Int)(a5:L1):Option L1:=
 (F86 a0).bind fun x1=>
 (F56 a4 0 x1).bind fun x3=>
 if x3=true then
  (chk (a4+a3)).bind fun x5=>
  (F102 a1 x5).bind fun x6=>
  (getI a2 a4).bind fun x8=>
  (F119 a0.P x6 a5 x8).bind fun dI=>
  some dI
 else
  (chk (a4+a3)).bind fun dG=>
  (F102 a1 dG).bind fun bD=>
  (mkL 8 bD 0).bind fun iR=>
  some iR
theorem s309(a0:qa)(a1:qa)(a2:L3)(a3:Int)(a4:Int)(a5:L1){r:L1}(hF:F309 a0 a1 a2 a3 a4 a5=some r):ans A 309 [(eC a0),(eC a1),iL a2,iI a3,iI a4,iL a5]=some (enc r):=by
 refine qv (f:=p309) rfl rfl rfl fun e hl he=>?_;have aA:=he 0 _ rfl;have aB:=he 1 _ rfl;have aN:=he 2 _ rfl;have bR:=he 3 _ rfl;have nT:=he 4 _ rfl;have mm:=he 5 _ rfl;have hl_0:e.length=37:=hl;clear he hl;show W A b309 e ⟨[],0⟩ _;unfold F309 at hF;obtain⟨x1,bI,hF⟩:=bS hF;have w2:=s86 a0 bI;obtain⟨x3,dO,hF⟩:=bS hF;have w4:=s56 a4 0 x1 dO;cases x3 with
 |true=>
  rw[if_pos rfl]at hF;obtain⟨x5,dC,hF⟩:=bS hF;have wx5:=qu dC;obtain⟨x6,fH,hF⟩:=bS hF;have w7:=s102 a1 x5 fH;obtain⟨x8,kC,hF⟩:=bS hF;obtain⟨d9,d7⟩:=qg kC;obtain⟨dI,dY,hF⟩:=bS hF;have pP:=s119 a0.P x6 a5 x8 dY;have hE:=wA hF; subst hE;simp only[simprocAttr, -Int.reduceNatCast',R0,b309, *];exact qc (by simp only[simprocAttr, -Int.reduceNatCast',R0,qe,p309,Rs.ev,qb, *])
 |false=>
  rw[if_neg wD]at hF;obtain⟨dG,dQ,hF⟩:=bS hF;have pM:=qu dQ;obtain⟨bD,cD,hF⟩:=bS hF;have mT:=s102 a1 dG cD;obtain⟨iR,lC,hF⟩:=bS hF;obtain⟨kP,iX,pO,nM,nL⟩:=mkL_w lC;replace nL:(List.replicate (Int.toNat bD) [iI 0]).flatten=List.map enc iR:=nL;have hE:=wA hF; subst hE;simp only[simprocAttr, -Int.reduceNatCast',R0,b309, *];exact qc (by simp only[simprocAttr, -Int.reduceNatCast',R0,qe,p309,Rs.ev,qb,frzs (α:=Int) iR,qM (α:=Int) iR,qK (α:=Int) (l:=iR) (n:=(Int.toNat bD)) (by first|rfl|simp only[nM]), *])
def F308_2_B(a0:qa)(a1:qa)(a2:L3)(aR:Int)(x7:L2)(gU:Int)(s:Unit):Option ((Unit)⊕((Unit)⊕Bool)):=
 (getI x7 gU).bind fun dG=>
(chk (aR - 1)).bind fun cO=>
(getI a0.M cO).bind fun cQ=>
(getI cQ gU).bind fun dU=>
(F309 a0 a1 a2 0 cO dU).bind fun eA=>
(F91 a1 aR dG).bind fun dA=>
(F165 eA dA).bind fun cU=>
if cU=true then
 some (.inl ())
else
 some (.inr (.inr false))
def F308_2_D(a0:qa)(a1:qa)(a2:L3)(aR:Int)(x7:L2)(gU:Int)(s:Unit):Option ((Unit)⊕Bool):=
 some (.inl ())
def F308_1_S(a0:qa)(a1:qa)(a2:L3)(aR:Int):Option ((Int)⊕((Unit)⊕Bool)):=
 (F86 a0).bind fun x4=>
if aR≤x4 then
 (getI a2 aR).bind fun x7=>
 (forR 0 (x7.length:Int) (F308_2_B a0 a1 a2 aR x7) (F308_2_D a0 a1 a2 aR x7) ()).bind fun u7=> match u7 with
  | .inl _=>
   (chk (aR+1)).bind fun iV=>
   some (.inl iV)
  | .inr v9=> some (.inr (.inr v9))
else
 some (.inr (.inl ()))
def F308(a0:qa)(a1:qa)(a2:L3):Option Bool:=
 (qA (F308_1_S a0 a1 a2) 1).bind fun tB=> match tB with
  | .inl _=>
   some true
  | .inr v8=> some v8
def I308_2(a0:qa)(a1:qa)(a2:L3)(aR:Int)(x7:L2)(gU:Int)(s:Unit)(e:Env)(h:Heap):Prop:=
 ∃kB:Nat,h=⟨[(0,none),(0,none)],kB⟩∧e.length=48∧e.at 2=iL a2∧e.at 3=eP a0∧e.at 4=eP a1∧e.at 7=iI aR∧e.at 19=iL x7∧e.at 20=iI (x7.length:Int)∧e.at 21=iI gU
def P308_2(a0:qa)(a1:qa)(a2:L3)(aR:Int)(x7:L2)(t:(Unit)⊕Bool)(x:Ex)(e:Env)(h:Heap):Prop:=
 match t with
 | .inl _=> x= .normal∧∃kB:Nat,h=⟨[(0,none),(0,none)],kB⟩∧e.length=48∧e.at 2=iL a2∧e.at 3=eP a0∧e.at 4=eP a1∧e.at 7=iI aR
 | .inr r=> x= .ret∧Fin p308 (enc r) .ret e h
theorem l308_2(a0:qa)(a1:qa)(a2:L3)(aR:Int)(x7:L2){lo:Int}{s:Unit}{t:(Unit)⊕Bool}(hF:forR lo (x7.length:Int) (F308_2_B a0 a1 a2 aR x7) (F308_2_D a0 a1 a2 aR x7) s=some t){e:Env}{h:Heap}(hI:I308_2 a0 a1 a2 aR x7 lo s e h):W A c308_2 e h (P308_2 a0 a1 a2 aR x7 t):=by
 show W A (.block 2 (.loop false b308_2)) e h _;rw[qj];refine qz hF 2 (by obtain⟨_,rfl,_⟩:=hI; rfl) (I308_2 a0 a1 a2 aR x7) hI ?_ ?_
 ·rintro gU _ e h ⟨kB,rfl,h_9⟩ hlt hw o ho
  unfold F308_2_B at ho;obtain⟨dG,dQ,ho⟩:=bS ho;obtain⟨s7,sS⟩:=qg dQ;obtain⟨cO,eF,ho⟩:=bS ho;have sE:=qu eF;obtain⟨cQ,dP,ho⟩:=bS ho;obtain⟨kP,iX⟩:=qg dP;obtain⟨dU,eL,ho⟩:=bS ho;obtain⟨lM,kO⟩:=qg eL;obtain⟨eA,dV,ho⟩:=bS ho;have cz:=s309 a0 a1 a2 0 cO dU dV;obtain⟨dA,dL,ho⟩:=bS ho;have sL:=s91 a1 aR dG dL;obtain⟨cU,iC,ho⟩:=bS ho;have cy:=s165 eA dA iC;cases cU with
  |true=>
   rw[if_pos rfl]at ho;cases ho;simp only[simprocAttr,R0,b308_2, *];refine ai rfl (ei _ (ai rfl ?_));simp only[simprocAttr,R0, *]
  |false=>
   rw[if_neg wD]at ho;cases ho;simp only[simprocAttr,R0,b308_2, *];intro ht; subst ht;simp only[simprocAttr,RR,RB];exact ai rfl (qc (by simp only[simprocAttr,R0,qe,p308,Rs.ev,qb, *]))
 ·rintro gU _ e h ⟨kB,rfl,h_9⟩ hge t1 ho
  unfold F308_2_D at ho;cases ho;simp only[simprocAttr,R0,b308_2, *];intro ht; subst ht;refine ai rfl (ei _ (ai rfl ?_));simp only[simprocAttr,R0, *]
def I308_1(a0:qa)(a1:qa)(a2:L3)(aR:Int)(e:Env)(h:Heap):Prop:=
 ∃k2:Nat,h=⟨[(0,none),(0,none)],k2⟩∧e.length=48∧e.at 2=iL a2∧e.at 3=eP a0∧e.at 4=eP a1∧e.at 7=iI aR
def P308_1(a0:qa)(a1:qa)(a2:L3)(t:(Unit)⊕Bool)(x:Ex)(e:Env)(h:Heap):Prop:=
 match t with
 | .inl _=> x= .normal∧∃k2:Nat,h=⟨[(0,none),(0,none)],k2⟩∧e.length=48
 | .inr r=> x= .ret∧Fin p308 (enc r) .ret e h
theorem l308_1(a0:qa)(a1:qa)(a2:L3){s:Int}{t:(Unit)⊕Bool}(hF:qA (F308_1_S a0 a1 a2) s=some t){e:Env}{h:Heap}(hI:I308_1 a0 a1 a2 s e h):W A c308_1 e h (P308_1 a0 a1 a2 t):=by
 show W A (.block 0 (.loop false b308_1)) e h _;rw[qj];refine zi hF 2 (by obtain⟨_,rfl,_⟩:=hI; rfl) (I308_1 a0 a1 a2) hI ?_
 ·rintro aR e h ⟨k2,rfl,h_1⟩ o ho
  unfold F308_1_S at ho;obtain⟨x4,dK,ho⟩:=bS ho;have w5:=s86 a0 dK;by_cases c6:aR≤x4
  ·rw[if_pos c6]at ho
   obtain⟨x7,dF,ho⟩:=bS ho;obtain⟨mR,mE⟩:=qg dF;obtain⟨u7,nD,ho⟩:=bS ho;rcases u7 with _|v9
   ·dsimp only at ho
    simp only[simprocAttr,R0,b308_1, *];refine W.mono (l308_2 a0 a1 a2 aR x7 nD (ei _ (ai rfl ?_))) ?_
    ·simp only[simprocAttr,R0, *]
    rintro _ e _ ⟨rfl,kB,rfl,h_11⟩;obtain⟨iV,kE,ho⟩:=bS ho;have fe:=qu kE;cases ho;simp only[simprocAttr,R0, *];refine ai rfl (ei _ (ai rfl ?_));simp only[simprocAttr,R0, *]
   ·dsimp only at ho
    cases ho;simp only[simprocAttr,R0,b308_1, *];refine W.mono (l308_2 a0 a1 a2 aR x7 nD (ei _ (ai rfl ?_))) ?_
    ·simp only[simprocAttr,R0, *]
    rintro _ e h ⟨rfl,hq⟩;simp only[simprocAttr,RR,RB];intro ht; subst ht;simp only[simprocAttr,RR,RB];exact ai rfl hq
  ·rw[if_neg c6]at ho
   cases ho;simp only[simprocAttr,R0,b308_1, *];intro ht; subst ht;simp only[simprocAttr,RR,RB];refine ai rfl (ei _ (ai rfl ?_));simp only[simprocAttr,R0, *]
theorem s308(a0:qa)(a1:qa)(a2:L3){r:Bool}(hF:F308 a0 a1 a2=some r):ans A 308 [(eC a0),(eC a1),iL a2]=some (enc r):=by
 refine qv (f:=p308) rfl rfl rfl fun e hl he=>?_;have aA:=he 0 _ rfl;have aB:=he 1 _ rfl;have aN:=he 2 _ rfl;have hl_0:e.length=48:=hl;clear he hl;have h_0:=ai hl_0 (ai aA (ai aB aN));show W A b308 e ⟨[],0⟩ _;unfold F308 at hF;obtain⟨tB,kH,hF⟩:=bS hF;rcases tB with _|v8
 ·dsimp only at hF
  simp only[simprocAttr,R0,b308, *];refine W.mono (l308_1 a0 a1 a2 kH (ei _ (ai rfl ?_))) ?_
  ·simp only[simprocAttr,R0, *]
  rintro _ e _ ⟨rfl,k2,rfl,hl_3⟩;cases hF;simp only[simprocAttr,R0, *];exact qc (by simp only[simprocAttr,R0,qe,p308,Rs.ev,qb, *])
 ·dsimp only at hF
  cases hF;simp only[simprocAttr,R0,b308, *];refine W.mono (l308_1 a0 a1 a2 kH (ei _ (ai rfl ?_))) ?_
  ·simp only[simprocAttr,R0, *]
  rintro _ e h ⟨rfl,hq⟩;simp only[simprocAttr,RR,RB];exact hq
def F275(a0:L3)(d0:qa)(d1:qa):Option Bool:=
 (F308 d0 d1 a0).bind fun x1=>
 some (!x1)
theorem s275(a0:L3)(d0:qa)(d1:qa){r:Bool}(hF:F275 a0 d0 d1=some r):ans A 275 [iL a0,eP d0,eP d1]=some (enc r):=by
 refine qv (f:=p275) rfl rfl rfl fun e hl he=>?_;have aA:=he 0 _ rfl;have aB:=he 1 _ rfl;have aN:=he 2 _ rfl;have hl_0:e.length=10:=hl;clear he hl;show W A b275 e ⟨[],0⟩ _;unfold F275 at hF;obtain⟨x1,bI,hF⟩:=bS hF;have w2:=s308 d0 d1 a0 bI;cases hF;simp only[simprocAttr,R0,b275, *];exact qc (by simp only[simprocAttr,R0,qe,p275,Rs.ev,qb, *])
def F244(a0:qa)(a1:qa)(a2:List L3):Option Int:=
 (F274 a0 a1 a2).bind fun x1=>
 if x1=0 then
  (F276 a2 (fun x=> F275 x a0 a1)).bind fun x4=>
  if x4=true then
   some 5
  else
   some x1
 else
  some x1
theorem s244(a0:qa)(a1:qa)(a2:List L3){r:Int}(hF:F244 a0 a1 a2=some r):ans A 244 [(eC a0),(eC a1),iL a2]=some (enc r):=by
 refine qv (f:=p244) rfl rfl rfl fun e hl he=>?_;have aA:=he 0 _ rfl;have aB:=he 1 _ rfl;have aN:=he 2 _ rfl;have hl_0:e.length=20:=hl;clear he hl;have h_0:=ai hl_0 (ai aA (ai aB aN));show W A b244 e ⟨[],0⟩ _;unfold F244 at hF;obtain⟨x1,bI,hF⟩:=bS hF;have w2:ans A 274 [(eC a0),(eC a1),iL a2]=some (iI x1):=s274 a0 a1 a2 bI;by_cases c3:x1=0
 ·rw[if_pos c3]at hF
  obtain⟨x4,dK,hF⟩:=bS hF;have w5:ans A 276 [iL a2,V.fn 275 [] [eP a0,eP a1]]=some (V.bool x4):=s276 a2 (fun x=> F275 x a0 a1) (Clo1.of (by intro h f; simp only[RZ,mapO]) (by intro h f; simp only[RZ,mapO]) (by intro f; simp only[RZ,RB]) (by intro f; simp only[RZ,RB]) (fun x _ hr=> s275 x a0 a1 hr)) dK;cases x4 with
  |true=>
   rw[if_pos rfl]at hF;cases hF;simp only[simprocAttr,R0,b244, *];exact qc (by simp only[simprocAttr,R0,qe,p244,Rs.ev,qb, *])
  |false=>
   rw[if_neg wD]at hF;cases hF;simp only[simprocAttr,R0,b244, *];exact qc (by simp only[simprocAttr,R0,qe,p244,Rs.ev,qb, *])
 ·rw[if_neg c3]at hF
  cases hF;simp only[simprocAttr,R0,b244, *];exact qc (by simp only[simprocAttr,R0,qe,p244,Rs.ev,qb, *])
def F458_2_B(a0:qa)(a1:qa)(a2:L3)(a3:L3)(a4:L3)(aO:Int)(cC:L2)(dJ:Int)(s:Unit):Option ((Unit)⊕((Unit)⊕(T2 Bool Int))):=
 (getI cC dJ).bind fun dA=>
(F102 a1 aO).bind fun cU=>
(mkL 8 cU 0).bind fun cV=>
(F86 a1).bind fun lK=>
if aO < lK then
 (chk (aO+1)).bind fun cW=>
 (getI a4 aO).bind fun xZ=>
 (getI xZ dJ).bind fun fU=>
 (F91 a1 cW fU).bind fun nI=>
 if 0 < aO then
  (chk (aO - 1)).bind fun fT=>
  (F91 a0 aO dA).bind fun lF=>
  (F309 a0 a1 a4 1 fT lF).bind fun mD=>
  (F173 a0.P nI mD 1).bind fun ef=>
  (getI a2 aO).bind fun pL=>
  (getI pL dJ).bind fun pK=>
  (getI a3 aO).bind fun j9=>
  (getI j9 dJ).bind fun ec=>
  (chk (a0.P - 1)).bind fun xW=>
  (F173 a0.P pK ec xW).bind fun xV=>
  (F165 xV ef).bind fun oY=>
  if oY=true then
   some (.inl ())
  else
   some (.inr (.inr ⟨false,0⟩))
 else
  (getI a2 aO).bind fun oX=>
  (getI oX dJ).bind fun iF=>
  (getI a3 aO).bind fun j8=>
  (getI j8 dJ).bind fun dz=>
  (chk (a0.P - 1)).bind fun dx=>
  (F173 a0.P iF dz dx).bind fun nG=>
  (F165 nG nI).bind fun pJ=>
  if pJ=true then
   some (.inl ())
  else
   some (.inr (.inr ⟨false,0⟩))
else
 if 0 < aO then
  (chk (aO - 1)).bind fun nF=>
  (F91 a0 aO dA).bind fun dw=>
  (F309 a0 a1 a4 1 nF dw).bind fun du=>
  (F173 a0.P cV du 1).bind fun dt=>
  (getI a2 aO).bind fun x79=>
  (getI x79 dJ).bind fun dq=>
  (getI a3 aO).bind fun pI=>
  (getI pI dJ).bind fun uY=>
  (chk (a0.P - 1)).bind fun uX=>
  (F173 a0.P dq uY uX).bind fun rV=>
  (F165 rV dt).bind fun dp=>
  if dp=true then
   some (.inl ())
  else
   some (.inr (.inr ⟨false,0⟩))
 else
  (getI a2 aO).bind fun j7=>
  (getI j7 dJ).bind fun uW=>
  (getI a3 aO).bind fun uV=>
  (getI uV dJ).bind fun x98=>
  (chk (a0.P - 1)).bind fun mQ=>
  (F173 a0.P uW x98 mQ).bind fun mP=>
  (F165 mP cV).bind fun lL=>
  if lL=true then
   some (.inl ())
  else
   some (.inr (.inr ⟨false,0⟩))
def F458_2_D(a0:qa)(a1:qa)(a2:L3)(a3:L3)(a4:L3)(aO:Int)(cC:L2)(dJ:Int)(s:Unit):Option ((Unit)⊕(T2 Bool Int)):=
 some (.inl ())
def F458_1_B(a0:qa)(a1:qa)(a2:L3)(a3:L3)(a4:L3)(aO:Int)(s:Unit):Option ((Unit)⊕((Unit)⊕(T2 Bool Int))):=
 (F102 a0 aO).bind fun cO=>
(F124 cO).bind fun cC=>
(forR 0 (cC.length:Int) (F458_2_B a0 a1 a2 a3 a4 aO cC) (F458_2_D a0 a1 a2 a3 a4 aO cC) ()).bind fun tH=> match tH with
 | .inl _=>
  some (.inl ())
 | .inr z6=> some (.inr (.inr z6))
def F458_1_D(a0:qa)(a1:qa)(a2:L3)(a3:L3)(a4:L3)(aO:Int)(s:Unit):Option ((Unit)⊕(T2 Bool Int)):=
 some (.inl ())
def F458(a0:qa)(a1:qa)(a2:L3)(a3:L3)(a4:L3):Option (T2 Bool Int):=
 (F274 a0 a1 [a2,a3]).bind fun x1=>
 if x1=0 then
  (F313 a0 a1 a4 1).bind fun x4=>
  if x4=true then
   (F244 a0 a1 [a2,a3]).bind fun x6=>
   if x6=0 then
    (forR 0 (a0.D.length:Int) (F458_1_B a0 a1 a2 a3 a4) (F458_1_D a0 a1 a2 a3 a4) ()).bind fun tG=> match tG with
     | .inl _=>
      some ⟨true,0⟩
     | .inr z5=> some z5
   else
    some ⟨false,x6⟩
  else
   some ⟨false,2⟩
 else
  some ⟨false,x1⟩
def I458_2(a0:qa)(a1:qa)(a2:L3)(a3:L3)(a4:L3)(aO:Int)(cC:L2)(dJ:Int)(s:Unit)(e:Env)(h:Heap):Prop:=
 ∃i9:Nat,h=⟨[(0,none),(0,none),(2,some [iL a2,iL a3]),(3,some [iL a2,iL a3])],i9⟩∧e.length=119∧e.at 2=iL a2∧e.at 3=iL a3∧e.at 4=iL a4∧e.at 5=eP a0∧e.at 6=eP a1∧e.at 13=iI a0.P∧e.at 14=iI aO∧e.at 48=iI (a0.D.length:Int)∧e.at 49=iI aO∧e.at 55=iL cC∧e.at 56=iI (cC.length:Int)∧e.at 57=iI dJ
def P458_2(a0:qa)(a1:qa)(a2:L3)(a3:L3)(a4:L3)(aO:Int)(cC:L2)(t:(Unit)⊕(T2 Bool Int))(x:Ex)(e:Env)(h:Heap):Prop:=
 match t with
 | .inl _=> x= .normal∧∃i9:Nat,h=⟨[(0,none),(0,none),(2,some [iL a2,iL a3]),(3,some [iL a2,iL a3])],i9⟩∧e.length=119∧e.at 2=iL a2∧e.at 3=iL a3∧e.at 4=iL a4∧e.at 5=eP a0∧e.at 6=eP a1∧e.at 13=iI a0.P∧e.at 48=iI (a0.D.length:Int)∧e.at 49=iI aO
 | .inr r=> x= .ret∧Fin p458 (EncR.enc r) .ret e h
set_option maxHeartbeats 8000000 in
theorem l458_2(a0:qa)(a1:qa)(a2:L3)(a3:L3)(a4:L3)(aO:Int)(cC:L2){lo:Int}{s:Unit}{t:(Unit)⊕(T2 Bool Int)}(hF:forR lo (cC.length:Int) (F458_2_B a0 a1 a2 a3 a4 aO cC) (F458_2_D a0 a1 a2 a3 a4 aO cC) s=some t){e:Env}{h:Heap}(hI:I458_2 a0 a1 a2 a3 a4 aO cC lo s e h):W A c458_2 e h (P458_2 a0 a1 a2 a3 a4 aO cC t):=by
 show W A (.block 2 (.loop false b458_2)) e h _;rw[qj];refine qz hF 4 (by obtain⟨_,rfl,_⟩:=hI; rfl) (I458_2 a0 a1 a2 a3 a4 aO cC) hI ?_ ?_
 ·rintro dJ _ e h ⟨i9,rfl,h_18⟩ hlt hw o ho
  unfold F458_2_B at ho;obtain⟨dA,dL,ho⟩:=bS ho;obtain⟨r5,q9⟩:=qg dL;obtain⟨cU,iC,ho⟩:=bS ho;have cy:=s102 a1 aO iC;obtain⟨cV,pv,ho⟩:=bS ho;obtain⟨p8,p7,w26c,cB,o9⟩:=mkL_w pv;replace o9:(List.replicate (Int.toNat cU) [iI 0]).flatten=List.map enc cV:=o9;obtain⟨lK,lY,ho⟩:=bS ho;have w28:=s86 a1 lY;by_cases rR:aO < lK
  ·rw[if_pos rR]at ho
   obtain⟨cW,fB,ho⟩:=bS ho;have fd:=qu fB;obtain⟨xZ,uO,ho⟩:=bS ho;obtain⟨w32a,w32b⟩:=qg uO;obtain⟨fU,iA,ho⟩:=bS ho;obtain⟨w34a,w34b⟩:=qg iA;obtain⟨nI,oD,ho⟩:=bS ho;have w36:=s91 a1 cW fU oD;by_cases c37:0 < aO
   ·rw[if_pos c37]at ho
    obtain⟨fT,lU,ho⟩:=bS ho;have wx38:=qu lU;obtain⟨lF,kD,ho⟩:=bS ho;have w40:=s91 a0 aO dA kD;obtain⟨mD,lT,ho⟩:=bS ho;have w42:=s309 a0 a1 a4 1 fT lF lT;obtain⟨ef,og,ho⟩:=bS ho;have w44:=s173 a0.P nI mD 1 og;obtain⟨pL,nC,ho⟩:=bS ho;obtain⟨ib,o6⟩:=qg nC;obtain⟨pK,nZ,ho⟩:=bS ho;obtain⟨ia,gu⟩:=qg nZ;obtain⟨j9,uL,ho⟩:=bS ho;obtain⟨w50a,w50b⟩:=qg uL;obtain⟨ec,od,ho⟩:=bS ho;obtain⟨w52a,w52b⟩:=qg od;obtain⟨xW,uJ,ho⟩:=bS ho;have ez:=qu uJ;obtain⟨xV,uI,ho⟩:=bS ho;have w55:=s173 a0.P pK ec xW uI;obtain⟨oY,nY,ho⟩:=bS ho;have w57:=s165 xV ef nY;cases oY with
    |true=>
     rw[if_pos rfl]at ho;cases ho;simp only[simprocAttr, -Int.reduceNatCast',R0,b458_2,qM (α:=Int) cV,qK (α:=Int) (l:=cV) (n:=(Int.toNat cU)) (by first|rfl|simp only[cB]),qH (α:=Int) (l:=cV) (n:=(Int.toNat cU)) (by first|rfl|simp only[cB]), *];refine ai rfl (ei _ (ai rfl ?_));simp only[simprocAttr, -Int.reduceNatCast',R0,qM (α:=Int) cV,qK (α:=Int) (l:=cV) (n:=(Int.toNat cU)) (by first|rfl|simp only[cB]),qH (α:=Int) (l:=cV) (n:=(Int.toNat cU)) (by first|rfl|simp only[cB]), *]
    |false=>
     rw[if_neg wD]at ho;cases ho;simp only[simprocAttr, -Int.reduceNatCast',R0,b458_2,qM (α:=Int) cV,qK (α:=Int) (l:=cV) (n:=(Int.toNat cU)) (by first|rfl|simp only[cB]),qH (α:=Int) (l:=cV) (n:=(Int.toNat cU)) (by first|rfl|simp only[cB]), *];intro ht; subst ht;simp only[simprocAttr, -Int.reduceNatCast',RR,RB];exact ai rfl (qc (by simp only[simprocAttr, -Int.reduceNatCast',R0,qe,p458,Rs.ev,qb,qM (α:=Int) cV,qK (α:=Int) (l:=cV) (n:=(Int.toNat cU)) (by first|rfl|simp only[cB]),qH (α:=Int) (l:=cV) (n:=(Int.toNat cU)) (by first|rfl|simp only[cB]), *]))
   ·rw[if_neg c37]at ho
    obtain⟨oX,nX,ho⟩:=bS ho;obtain⟨gg,gf⟩:=qg nX;obtain⟨iF,nW,ho⟩:=bS ho;obtain⟨w61a,w61b⟩:=qg nW;obtain⟨j8,uH,ho⟩:=bS ho;obtain⟨w63a,w63b⟩:=qg uH;obtain⟨dz,nv,ho⟩:=bS ho;obtain⟨w65a,w65b⟩:=qg nv;obtain⟨dx,nt,ho⟩:=bS ho;have wx66:=qu nt;obtain⟨nG,nB,ho⟩:=bS ho;have w68:=s173 a0.P iF dz dx nB;obtain⟨pJ,nV,ho⟩:=bS ho;have w70:=s165 nG nI nV;cases pJ with
    |true=>
     rw[if_pos rfl]at ho;cases ho;simp only[simprocAttr, -Int.reduceNatCast',R0,b458_2,qM (α:=Int) cV,qK (α:=Int) (l:=cV) (n:=(Int.toNat cU)) (by first|rfl|simp only[cB]),qH (α:=Int) (l:=cV) (n:=(Int.toNat cU)) (by first|rfl|simp only[cB]), *];refine ai rfl (ei _ (ai rfl ?_));simp only[simprocAttr, -Int.reduceNatCast',R0,qM (α:=Int) cV,qK (α:=Int) (l:=cV) (n:=(Int.toNat cU)) (by first|rfl|simp only[cB]),qH (α:=Int) (l:=cV) (n:=(Int.toNat cU)) (by first|rfl|simp only[cB]), *]
    |false=>
     rw[if_neg wD]at ho;cases ho;simp only[simprocAttr, -Int.reduceNatCast',R0,b458_2,qM (α:=Int) cV,qK (α:=Int) (l:=cV) (n:=(Int.toNat cU)) (by first|rfl|simp only[cB]),qH (α:=Int) (l:=cV) (n:=(Int.toNat cU)) (by first|rfl|simp only[cB]), *];intro ht; subst ht;simp only[simprocAttr, -Int.reduceNatCast',RR,RB];exact ai rfl (qc (by simp only[simprocAttr, -Int.reduceNatCast',R0,qe,p458,Rs.ev,qb,qM (α:=Int) cV,qK (α:=Int) (l:=cV) (n:=(Int.toNat cU)) (by first|rfl|simp only[cB]),qH (α:=Int) (l:=cV) (n:=(Int.toNat cU)) (by first|rfl|simp only[cB]), *]))
  ·rw[if_neg rR]at ho
   by_cases c71:0 < aO
   ·rw[if_pos c71]at ho
    obtain⟨nF,nU,ho⟩:=bS ho;have wx72:=qu nU;obtain⟨dw,nr,ho⟩:=bS ho;have w74:=s91 a0 aO dA nr;obtain⟨du,np,ho⟩:=bS ho;have w76:=s309 a0 a1 a4 1 nF dw np;obtain⟨dt,nm,ho⟩:=bS ho;have w78:=s173 a0.P cV du 1 nm;obtain⟨x79,nl,ho⟩:=bS ho;obtain⟨w80a,w80b⟩:=qg nl;obtain⟨dq,ni,ho⟩:=bS ho;obtain⟨w82a,w82b⟩:=qg ni;obtain⟨pI,nA,ho⟩:=bS ho;obtain⟨fv,n8⟩:=qg nA;obtain⟨uY,tY,ho⟩:=bS ho;obtain⟨fu,ft⟩:=qg tY;obtain⟨uX,tX,ho⟩:=bS ho;have ew:=qu tX;obtain⟨rV,tW,ho⟩:=bS ho;have w89:=s173 a0.P dq uY uX tW;obtain⟨dp,nh,ho⟩:=bS ho;have w91:=s165 rV dt nh;cases dp with
    |true=>
     rw[if_pos rfl]at ho;cases ho;simp only[simprocAttr, -Int.reduceNatCast',R0,b458_2,qM (α:=Int) cV,qK (α:=Int) (l:=cV) (n:=(Int.toNat cU)) (by first|rfl|simp only[cB]),qH (α:=Int) (l:=cV) (n:=(Int.toNat cU)) (by first|rfl|simp only[cB]), *];refine ai rfl (ei _ (ai rfl ?_));simp only[simprocAttr, -Int.reduceNatCast',R0,qM (α:=Int) cV,qK (α:=Int) (l:=cV) (n:=(Int.toNat cU)) (by first|rfl|simp only[cB]),qH (α:=Int) (l:=cV) (n:=(Int.toNat cU)) (by first|rfl|simp only[cB]), *]
    |false=>
     rw[if_neg wD]at ho;cases ho;simp only[simprocAttr, -Int.reduceNatCast',R0,b458_2,qM (α:=Int) cV,qK (α:=Int) (l:=cV) (n:=(Int.toNat cU)) (by first|rfl|simp only[cB]),qH (α:=Int) (l:=cV) (n:=(Int.toNat cU)) (by first|rfl|simp only[cB]), *];intro ht; subst ht;simp only[simprocAttr, -Int.reduceNatCast',RR,RB];exact ai rfl (qc (by simp only[simprocAttr, -Int.reduceNatCast',R0,qe,p458,Rs.ev,qb,qM (α:=Int) cV,qK (α:=Int) (l:=cV) (n:=(Int.toNat cU)) (by first|rfl|simp only[cB]),qH (α:=Int) (l:=cV) (n:=(Int.toNat cU)) (by first|rfl|simp only[cB]), *]))
   ·rw[if_neg c71]at ho
    obtain⟨j7,tV,ho⟩:=bS ho;obtain⟨w93a,w93b⟩:=qg tV;obtain⟨uW,tU,ho⟩:=bS ho;obtain⟨fp,fo⟩:=qg tU;obtain⟨uV,tT,ho⟩:=bS ho;obtain⟨fm,fk⟩:=qg tT;obtain⟨x98,tS,ho⟩:=bS ho;obtain⟨w99a,w99b⟩:=qg tS;obtain⟨mQ,oH,ho⟩:=bS ho;have m9:=qu oH;obtain⟨mP,oG,ho⟩:=bS ho;have w102:=s173 a0.P uW x98 mQ oG;obtain⟨lL,oE,ho⟩:=bS ho;have w104:=s165 mP cV oE;cases lL with
    |true=>
     rw[if_pos rfl]at ho;cases ho;simp only[simprocAttr, -Int.reduceNatCast',R0,b458_2,qM (α:=Int) cV,qK (α:=Int) (l:=cV) (n:=(Int.toNat cU)) (by first|rfl|simp only[cB]),qH (α:=Int) (l:=cV) (n:=(Int.toNat cU)) (by first|rfl|simp only[cB]), *];refine ai rfl (ei _ (ai rfl ?_));simp only[simprocAttr, -Int.reduceNatCast',R0,qM (α:=Int) cV,qK (α:=Int) (l:=cV) (n:=(Int.toNat cU)) (by first|rfl|simp only[cB]),qH (α:=Int) (l:=cV) (n:=(Int.toNat cU)) (by first|rfl|simp only[cB]), *]
    |false=>
     rw[if_neg wD]at ho;cases ho;simp only[simprocAttr, -Int.reduceNatCast',R0,b458_2,qM (α:=Int) cV,qK (α:=Int) (l:=cV) (n:=(Int.toNat cU)) (by first|rfl|simp only[cB]),qH (α:=Int) (l:=cV) (n:=(Int.toNat cU)) (by first|rfl|simp only[cB]), *];intro ht; subst ht;simp only[simprocAttr, -Int.reduceNatCast',RR,RB];exact ai rfl (qc (by simp only[simprocAttr, -Int.reduceNatCast',R0,qe,p458,Rs.ev,qb,qM (α:=Int) cV,qK (α:=Int) (l:=cV) (n:=(Int.toNat cU)) (by first|rfl|simp only[cB]),qH (α:=Int) (l:=cV) (n:=(Int.toNat cU)) (by first|rfl|simp only[cB]), *]))
 ·rintro dJ _ e h ⟨i9,rfl,h_18⟩ hge t1 ho
  unfold F458_2_D at ho;cases ho;simp only[simprocAttr, -Int.reduceNatCast',R0,b458_2, *];intro ht; subst ht;refine ai rfl (ei _ (ai rfl ?_));simp only[simprocAttr, -Int.reduceNatCast',R0, *]
def I458_1(a0:qa)(a1:qa)(a2:L3)(a3:L3)(a4:L3)(aO:Int)(s:Unit)(e:Env)(h:Heap):Prop:=
 ∃iS:Nat,h=⟨[(0,none),(0,none),(2,some [iL a2,iL a3]),(3,some [iL a2,iL a3])],iS⟩∧e.length=119∧e.at 2=iL a2∧e.at 3=iL a3∧e.at 4=iL a4∧e.at 5=eP a0∧e.at 6=eP a1∧e.at 13=iI a0.P∧e.at 48=iI (a0.D.length:Int)∧e.at 49=iI aO
def P458_1(a0:qa)(a1:qa)(a2:L3)(a3:L3)(a4:L3)(t:(Unit)⊕(T2 Bool Int))(x:Ex)(e:Env)(h:Heap):Prop:=
 match t with
 | .inl _=> x= .normal∧∃iS:Nat,h=⟨[(0,none),(0,none),(2,some [iL a2,iL a3]),(3,some [iL a2,iL a3])],iS⟩∧e.length=119
 | .inr r=> x= .ret∧Fin p458 (EncR.enc r) .ret e h
theorem l458_1(a0:qa)(a1:qa)(a2:L3)(a3:L3)(a4:L3){lo:Int}{s:Unit}{t:(Unit)⊕(T2 Bool Int)}(hF:forR lo (a0.D.length:Int) (F458_1_B a0 a1 a2 a3 a4) (F458_1_D a0 a1 a2 a3 a4) s=some t){e:Env}{h:Heap}(hI:I458_1 a0 a1 a2 a3 a4 lo s e h):W A c458_1 e h (P458_1 a0 a1 a2 a3 a4 t):=by
 show W A (.block 0 (.loop false b458_1)) e h _;rw[qj];refine qz hF 4 (by obtain⟨_,rfl,_⟩:=hI; rfl) (I458_1 a0 a1 a2 a3 a4) hI ?_ ?_
 ·rintro aO _ e h ⟨iS,rfl,h_11⟩ hlt hw o ho
  unfold F458_1_B at ho;obtain⟨cO,eF,ho⟩:=bS ho;have g8:=s102 a0 aO eF;obtain⟨cC,dM,ho⟩:=bS ho;have rE:=s124 cO dM;obtain⟨tH,rP,ho⟩:=bS ho;rcases tH with _|z6
  ·dsimp only at ho
   simp only[simprocAttr,R0,b458_1, *];refine W.mono (l458_2 a0 a1 a2 a3 a4 aO cC rP (ei _ (ai rfl ?_))) ?_
   ·simp only[simprocAttr,R0, *]
   rintro _ e _ ⟨rfl,i9,rfl,h_20⟩;cases ho;simp only[simprocAttr,R0, *];refine ai rfl (ei _ (ai rfl ?_));simp only[simprocAttr,R0, *]
  ·dsimp only at ho
   cases ho;simp only[simprocAttr,R0,b458_1, *];refine W.mono (l458_2 a0 a1 a2 a3 a4 aO cC rP (ei _ (ai rfl ?_))) ?_
   ·simp only[simprocAttr,R0, *]
   rintro _ e h ⟨rfl,hq⟩;simp only[simprocAttr,RR,RB];intro ht; subst ht;simp only[simprocAttr,RR,RB];exact ai rfl hq
 ·rintro aO _ e h ⟨iS,rfl,h_11⟩ hge t1 ho
  unfold F458_1_D at ho;cases ho;simp only[simprocAttr,R0,b458_1, *];intro ht; subst ht;refine ai rfl (ei _ (ai rfl ?_));simp only[simprocAttr,R0, *]
theorem s458(a0:qa)(a1:qa)(a2:L3)(a3:L3)(a4:L3){r:T2 Bool Int}(hF:F458 a0 a1 a2 a3 a4=some r):ans A 458 [(eC a0),(eC a1),iL a2,iL a3,iL a4]=some (EncR.enc r):=by
 refine qv (f:=p458) rfl rfl rfl fun e hl he=>?_;have aA:=he 0 _ rfl;have aB:=he 1 _ rfl;have aN:=he 2 _ rfl;have bR:=he 3 _ rfl;have nT:=he 4 _ rfl;have hl_0:e.length=119:=hl;clear he hl;have h_0:=ai hl_0 (ai aA (ai aB (ai aN (ai bR nT))));show W A b458 e ⟨[],0⟩ _;unfold F458 at hF;obtain⟨x1,bI,hF⟩:=bS hF;have w2:ans A 274 [(eC a0),(eC a1),V.isl [iL a2,iL a3]]=some (iI x1):=s274 a0 a1 [a2,a3] bI;by_cases c3:x1=0
 ·rw[if_pos c3]at hF
  obtain⟨x4,dK,hF⟩:=bS hF;have w5:ans A 313 [(eC a0),(eC a1),iL a4,iI 1]=some (V.bool x4):=s313 a0 a1 a4 1 dK;cases x4 with
  |true=>
   rw[if_pos rfl]at hF;obtain⟨x6,fH,hF⟩:=bS hF;have w7:ans A 244 [(eC a0),(eC a1),V.isl [iL a2,iL a3]]=some (iI x6):=s244 a0 a1 [a2,a3] fH;by_cases c8:x6=0
   ·rw[if_pos c8]at hF
    have pC:ans A 73 [iL a0.D]=some (iI (a0.D.length:Int)):=s73 a0.D rfl;obtain⟨tG,rO,hF⟩:=bS hF;rcases tG with _|z5
    ·dsimp only at hF
     simp only[simprocAttr,R0,b458, *];refine W.mono (l458_1 a0 a1 a2 a3 a4 rO (ei _ (ai rfl ?_))) ?_
     ·simp only[simprocAttr,R0, *]
     rintro _ e _ ⟨rfl,iS,rfl,hl_13⟩;cases hF;simp only[simprocAttr,R0, *];exact qc (by simp only[simprocAttr,R0,qe,p458,Rs.ev,qb, *])
    ·dsimp only at hF
     cases hF;simp only[simprocAttr,R0,b458, *];refine W.mono (l458_1 a0 a1 a2 a3 a4 rO (ei _ (ai rfl ?_))) ?_
     ·simp only[simprocAttr,R0, *]
     rintro _ e h ⟨rfl,hq⟩;simp only[simprocAttr,RR,RB];exact hq
   ·rw[if_neg c8]at hF
    cases hF;simp only[simprocAttr,R0,b458, *];exact qc (by simp only[simprocAttr,R0,qe,p458,Rs.ev,qb, *])
  |false=>
   rw[if_neg wD]at hF;cases hF;simp only[simprocAttr,R0,b458, *];exact qc (by simp only[simprocAttr,R0,qe,p458,Rs.ev,qb, *])
 ·rw[if_neg c3]at hF
  cases hF;simp only[simprocAttr,R0,b458, *];exact qc (by simp only[simprocAttr,R0,qe,p458,Rs.ev,qb, *])
def F302(a0:qa)(a1:qa):Option Int:=
 (F39 a0).bind fun x1=>
 if x1=true then
  (F39 a1).bind fun x3=>
  if x3=true then
   if a0.P=a1.P then
    if(a0.D.length:Int)=(a1.D.length:Int)then
     some 0
    else
     some 2
   else
    some 2
  else
   some 1
 else
  some 1
theorem s302(a0:qa)(a1:qa){r:Int}(hF:F302 a0 a1=some r):ans A 302 [(eC a0),(eC a1)]=some (enc r):=by
 refine qv (f:=p302) rfl rfl rfl fun e hl he=>?_;have aA:=he 0 _ rfl;have aB:=he 1 _ rfl;have hl_0:e.length=29:=hl;clear he hl;have h_0:=ai hl_0 (ai aA aB);show W A b302 e ⟨[],0⟩ _;unfold F302 at hF;obtain⟨x1,bI,hF⟩:=bS hF;have w2:ans A 39 [(eC a0)]=some (V.bool x1):=s39 a0 bI;cases x1 with
 |true=>
  rw[if_pos rfl]at hF;obtain⟨x3,dO,hF⟩:=bS hF;have w4:ans A 39 [(eC a1)]=some (V.bool x3):=s39 a1 dO;cases x3 with
  |true=>
   rw[if_pos rfl]at hF;by_cases c5:a0.P=a1.P
   ·rw[if_pos c5]at hF
    by_cases c6:(a0.D.length:Int)=(a1.D.length:Int)
    ·rw[if_pos c6]at hF
     cases hF;simp only[simprocAttr,R0,b302,h_0,w2,w4,eq_true c5,eq_true c6];exact qc (by simp only[simprocAttr,R0,qe,p302,Rs.ev,qb,h_0,w2,w4,eq_true c5,eq_true c6])
    ·rw[if_neg c6]at hF
     cases hF;simp only[simprocAttr,R0,b302,h_0,w2,w4,eq_true c5,eq_false c6];exact qc (by simp only[simprocAttr,R0,qe,p302,Rs.ev,qb,h_0,w2,w4,eq_true c5,eq_false c6])
   ·rw[if_neg c5]at hF
    cases hF;simp only[simprocAttr,R0,b302,h_0,w2,w4,eq_false c5];exact qc (by simp only[simprocAttr,R0,qe,p302,Rs.ev,qb,h_0,w2,w4,eq_false c5])
  |false=>
   rw[if_neg wD]at hF;cases hF;simp only[simprocAttr,R0,b302,h_0,w2,w4];exact qc (by simp only[simprocAttr,R0,qe,p302,Rs.ev,qb,h_0,w2,w4])
 |false=>
  rw[if_neg wD]at hF;cases hF;simp only[simprocAttr,R0,b302,h_0,w2];exact qc (by simp only[simprocAttr,R0,qe,p302,Rs.ev,qb,h_0,w2])
def jI(a0:qa)(a1:qa)(a2:L3)(a3:Int)(aL:Int)(aG:Int)(gW:Int):Option ((Int)⊕((Unit)⊕Bool)):=
 (getI a2 aL).bind fun iW=>
(getI iW aG).bind fun lK=>
if gW < (lK.length:Int)then
 (getI lK gW).bind fun cW=>
 (chk (a0.P - 1)).bind fun iT=>
 (F54 cW 0 iT).bind fun fU=>
 if fU=true then
  (chk (gW+1)).bind fun nI=>
  some (.inl nI)
 else
  some (.inr (.inr false))
else
 some (.inr (.inl ()))
def jJ(a0:qa)(a1:qa)(a2:L3)(a3:Int)(aL:Int)(aG:Int):Option ((Int)⊕((Unit)⊕Bool)):=
 (getI a2 aL).bind fun bD=>
if aG < (bD.length:Int)then
 (getI bD aG).bind fun cC=>
 (chk (aL+a3)).bind fun eM=>
 (F99 a1 eM).bind fun eA=>
 if(cC.length:Int)=eA then
  (qA (jI a0 a1 a2 a3 aL aG) 0).bind fun ky=> match ky with
   | .inl _=>
    (chk (aG+1)).bind fun xY=>
    some (.inl xY)
   | .inr v7=> some (.inr (.inr v7))
 else
  some (.inr (.inr false))
else
 some (.inr (.inl ()))
def xP(a0:qa)(a1:qa)(a2:L3)(a3:Int)(aL:Int)(s:Unit):Option ((Unit)⊕((Unit)⊕Bool)):=
 (getI a2 aL).bind fun x5=>
(getI a0.D aL).bind fun x7=>
if(x5.length:Int)=x7 then
 (qA (jJ a0 a1 a2 a3 aL) 0).bind fun kw=> match kw with
  | .inl _=>
   some (.inl ())
  | .inr r40=> some (.inr (.inr r40))
else
 some (.inr (.inr false))
def F303_1_D(a0:qa)(a1:qa)(a2:L3)(a3:Int)(aL:Int)(s:Unit):Option ((Unit)⊕Bool):=
 some (.inl ())
def F303(a0:qa)(a1:qa)(a2:L3)(a3:Int):Option Bool:=
 if(a2.length:Int)=(a0.D.length:Int)then
  (forR 0 (a2.length:Int) (xP a0 a1 a2 a3) (F303_1_D a0 a1 a2 a3) ()).bind fun ku=> match ku with
   | .inl _=>
    some true
   | .inr r42=> some r42
 else
  some false
def I303_3(a0:qa)(a1:qa)(a2:L3)(a3:Int)(aL:Int)(aG:Int)(gW:Int)(e:Env)(h:Heap):Prop:=
 ∃aj:Nat,h=⟨[(0,none),(0,none)],aj⟩∧e.length=85∧e.at 2=iL a2∧e.at 3=iI a3∧e.at 4=eP a0∧e.at 5=eP a1∧e.at 9=iI aL∧e.at 10=iI aG∧e.at 11=iI gW
def P303_3(a0:qa)(a1:qa)(a2:L3)(a3:Int)(aL:Int)(aG:Int)(t:(Unit)⊕Bool)(x:Ex)(e:Env)(h:Heap):Prop:=
 match t with
 | .inl _=> x= .normal∧∃aj:Nat,h=⟨[(0,none),(0,none)],aj⟩∧e.length=85∧e.at 2=iL a2∧e.at 3=iI a3∧e.at 4=eP a0∧e.at 5=eP a1∧e.at 9=iI aL∧e.at 10=iI aG
 | .inr r=> x= .ret∧Fin p303 (enc r) .ret e h
theorem l303_3(a0:qa)(a1:qa)(a2:L3)(a3:Int)(aL:Int)(aG:Int){s:Int}{t:(Unit)⊕Bool}(hF:qA (jI a0 a1 a2 a3 aL aG) s=some t){e:Env}{h:Heap}(hI:I303_3 a0 a1 a2 a3 aL aG s e h):W A c303_3 e h (P303_3 a0 a1 a2 a3 aL aG t):=by
 show W A (.block 4 (.loop false b303_3)) e h _;rw[qj];refine zi hF 2 (by obtain⟨_,rfl,_⟩:=hI; rfl) (I303_3 a0 a1 a2 a3 aL aG) hI ?_
 ·rintro gW e h ⟨aj,rfl,h_22⟩ o ho
  unfold jI at ho;obtain⟨iW,iB,ho⟩:=bS ho;obtain⟨p8,p7⟩:=qg iB;obtain⟨lK,lY,ho⟩:=bS ho;obtain⟨iu,ir⟩:=qg lY;by_cases rR:gW < (lK.length:Int)
  ·rw[if_pos rR]at ho
   obtain⟨cW,fB,ho⟩:=bS ho;obtain⟨w31a,w31b⟩:=qg fB;obtain⟨iT,lW,ho⟩:=bS ho;have wx32:=qu lW;obtain⟨fU,iA,ho⟩:=bS ho;have w34:=s54 cW 0 iT iA;cases fU with
   |true=>
    rw[if_pos rfl]at ho;obtain⟨nI,oD,ho⟩:=bS ho;have fc:=qu oD;cases ho;simp only[simprocAttr,R0,b303_3, *];refine ai rfl (ei _ (ai rfl ?_));simp only[simprocAttr,R0, *]
   |false=>
    rw[if_neg wD]at ho;cases ho;simp only[simprocAttr,R0,b303_3, *];intro ht; subst ht;simp only[simprocAttr,RR,RB];exact ai rfl (qc (by simp only[simprocAttr,R0,qe,p303,Rs.ev,qb, *]))
  ·rw[if_neg rR]at ho
   cases ho;simp only[simprocAttr,R0,b303_3, *];intro ht; subst ht;simp only[simprocAttr,RR,RB];refine ai rfl (ei _ (ai rfl ?_));simp only[simprocAttr,R0, *]
def I303_2(a0:qa)(a1:qa)(a2:L3)(a3:Int)(aL:Int)(aG:Int)(e:Env)(h:Heap):Prop:=
 ∃ak:Nat,h=⟨[(0,none),(0,none)],ak⟩∧e.length=85∧e.at 2=iL a2∧e.at 3=iI a3∧e.at 4=eP a0∧e.at 5=eP a1∧e.at 9=iI aL∧e.at 10=iI aG
def P303_2(a0:qa)(a1:qa)(a2:L3)(a3:Int)(aL:Int)(t:(Unit)⊕Bool)(x:Ex)(e:Env)(h:Heap):Prop:=
 match t with
 | .inl _=> x= .normal∧∃ak:Nat,h=⟨[(0,none),(0,none)],ak⟩∧e.length=85∧e.at 2=iL a2∧e.at 3=iI a3∧e.at 4=eP a0∧e.at 5=eP a1∧e.at 9=iI aL
 | .inr r=> x= .ret∧Fin p303 (enc r) .ret e h
theorem l303_2(a0:qa)(a1:qa)(a2:L3)(a3:Int)(aL:Int){s:Int}{t:(Unit)⊕Bool}(hF:qA (jJ a0 a1 a2 a3 aL) s=some t){e:Env}{h:Heap}(hI:I303_2 a0 a1 a2 a3 aL s e h):W A c303_2 e h (P303_2 a0 a1 a2 a3 aL t):=by
 show W A (.block 2 (.loop false b303_2)) e h _;rw[qj];refine zi hF 2 (by obtain⟨_,rfl,_⟩:=hI; rfl) (I303_2 a0 a1 a2 a3 aL) hI ?_
 ·rintro aG e h ⟨ak,rfl,h_10⟩ o ho
  unfold jJ at ho;obtain⟨bD,cD,ho⟩:=bS ho;obtain⟨kl,kk⟩:=qg cD;by_cases cx:aG < (bD.length:Int)
  ·rw[if_pos cx]at ho
   obtain⟨cC,dM,ho⟩:=bS ho;obtain⟨sQ,sP⟩:=qg dM;obtain⟨eM,eE,ho⟩:=bS ho;have m7:=qu eE;obtain⟨eA,dV,ho⟩:=bS ho;have cz:=s99 a1 eM dV;by_cases rS:(cC.length:Int)=eA
   ·rw[if_pos rS]at ho
    obtain⟨ky,pU,ho⟩:=bS ho;rcases ky with _|v7
    ·dsimp only at ho
     simp only[simprocAttr,R0,b303_2, *];refine W.mono (l303_3 a0 a1 a2 a3 aL aG pU (ei _ (ai rfl ?_))) ?_
     ·simp only[simprocAttr,R0, *]
     rintro _ e _ ⟨rfl,aj,rfl,h_24⟩;obtain⟨xY,pS,ho⟩:=bS ho;have wx37:=qu pS;cases ho;simp only[simprocAttr,R0, *];refine ai rfl (ei _ (ai rfl ?_));simp only[simprocAttr,R0, *]
    ·dsimp only at ho
     cases ho;simp only[simprocAttr,R0,b303_2, *];refine W.mono (l303_3 a0 a1 a2 a3 aL aG pU (ei _ (ai rfl ?_))) ?_
     ·simp only[simprocAttr,R0, *]
     rintro _ e h ⟨rfl,hq⟩;simp only[simprocAttr,RR,RB];intro ht; subst ht;simp only[simprocAttr,RR,RB];exact ai rfl hq
   ·rw[if_neg rS]at ho
    cases ho;simp only[simprocAttr,R0,b303_2, *];intro ht; subst ht;simp only[simprocAttr,RR,RB];exact ai rfl (qc (by simp only[simprocAttr,R0,qe,p303,Rs.ev,qb, *]))
  ·rw[if_neg cx]at ho
   cases ho;simp only[simprocAttr,R0,b303_2, *];intro ht; subst ht;simp only[simprocAttr,RR,RB];refine ai rfl (ei _ (ai rfl ?_));simp only[simprocAttr,R0, *]
def I303_1(a0:qa)(a1:qa)(a2:L3)(a3:Int)(aL:Int)(s:Unit)(e:Env)(h:Heap):Prop:=
 ∃k3:Nat,h=⟨[(0,none),(0,none)],k3⟩∧e.length=85∧e.at 2=iL a2∧e.at 3=iI a3∧e.at 4=eP a0∧e.at 5=eP a1∧e.at 9=iI aL
def P303_1(a0:qa)(a1:qa)(a2:L3)(a3:Int)(t:(Unit)⊕Bool)(x:Ex)(e:Env)(h:Heap):Prop:=
 match t with
 | .inl _=> x= .normal∧∃k3:Nat,h=⟨[(0,none),(0,none)],k3⟩∧e.length=85
 | .inr r=> x= .ret∧Fin p303 (enc r) .ret e h
theorem l303_1(a0:qa)(a1:qa)(a2:L3)(a3:Int){lo:Int}{s:Unit}{t:(Unit)⊕Bool}(hF:forR lo (a2.length:Int) (xP a0 a1 a2 a3) (F303_1_D a0 a1 a2 a3) s=some t){e:Env}{h:Heap}(hI:I303_1 a0 a1 a2 a3 lo s e h):W A c303_1 e h (P303_1 a0 a1 a2 a3 t):=by
 show W A (.block 0 (.loop false b303_1)) e h _;rw[qj];refine qz hF 2 (by obtain⟨_,rfl,_⟩:=hI; rfl) (I303_1 a0 a1 a2 a3) hI ?_ ?_
 ·rintro aL _ e h ⟨k3,rfl,h_2⟩ hlt hw o ho
  unfold xP at ho;obtain⟨x5,dC,ho⟩:=bS ho;obtain⟨iE,iD⟩:=qg dC;obtain⟨x7,dF,ho⟩:=bS ho;obtain⟨mR,mE⟩:=qg dF;by_cases c9:(x5.length:Int)=x7
  ·rw[if_pos c9]at ho
   obtain⟨kw,bj,ho⟩:=bS ho;rcases kw with _|r40
   ·dsimp only at ho
    simp only[simprocAttr,R0,b303_1, *];refine W.mono (l303_2 a0 a1 a2 a3 aL bj (ei _ (ai rfl ?_))) ?_
    ·simp only[simprocAttr,R0, *]
    rintro _ e _ ⟨rfl,ak,rfl,h_12⟩;cases ho;simp only[simprocAttr,R0, *];refine ai rfl (ei _ (ai rfl ?_));simp only[simprocAttr,R0, *]
   ·dsimp only at ho
    cases ho;simp only[simprocAttr,R0,b303_1, *];refine W.mono (l303_2 a0 a1 a2 a3 aL bj (ei _ (ai rfl ?_))) ?_
    ·simp only[simprocAttr,R0, *]
    rintro _ e h ⟨rfl,hq⟩;simp only[simprocAttr,RR,RB];intro ht; subst ht;simp only[simprocAttr,RR,RB];exact ai rfl hq
  ·rw[if_neg c9]at ho
   cases ho;simp only[simprocAttr,R0,b303_1, *];intro ht; subst ht;simp only[simprocAttr,RR,RB];exact ai rfl (qc (by simp only[simprocAttr,R0,qe,p303,Rs.ev,qb, *]))
 ·rintro aL _ e h ⟨k3,rfl,h_2⟩ hge t1 ho
  unfold F303_1_D at ho;cases ho;simp only[simprocAttr,R0,b303_1, *];intro ht; subst ht;refine ai rfl (ei _ (ai rfl ?_));simp only[simprocAttr,R0, *]
theorem s303(a0:qa)(a1:qa)(a2:L3)(a3:Int){r:Bool}(hF:F303 a0 a1 a2 a3=some r):ans A 303 [(eC a0),(eC a1),iL a2,iI a3]=some (enc r):=by
 refine qv (f:=p303) rfl rfl rfl fun e hl he=>?_;have aA:=he 0 _ rfl;have aB:=he 1 _ rfl;have aN:=he 2 _ rfl;have bR:=he 3 _ rfl;have hl_0:e.length=85:=hl;clear he hl;have h_0:=ai hl_0 (ai aA (ai aB (ai aN bR)));show W A b303 e ⟨[],0⟩ _;unfold F303 at hF;by_cases c1:(a2.length:Int)=(a0.D.length:Int)
 ·rw[if_pos c1]at hF
  obtain⟨ku,bi,hF⟩:=bS hF;rcases ku with _|r42
  ·dsimp only at hF
   simp only[simprocAttr,R0,b303, *];refine W.mono (l303_1 a0 a1 a2 a3 bi (ei _ (ai rfl ?_))) ?_
   ·simp only[simprocAttr,R0, *]
   rintro _ e _ ⟨rfl,k3,rfl,hl_4⟩;cases hF;simp only[simprocAttr,R0, *];exact qc (by simp only[simprocAttr,R0,qe,p303,Rs.ev,qb, *])
  ·dsimp only at hF
   cases hF;simp only[simprocAttr,R0,b303, *];refine W.mono (l303_1 a0 a1 a2 a3 bi (ei _ (ai rfl ?_))) ?_
   ·simp only[simprocAttr,R0, *]
   rintro _ e h ⟨rfl,hq⟩;simp only[simprocAttr,RR,RB];exact hq
 ·rw[if_neg c1]at hF
  cases hF;simp only[simprocAttr,R0,b303, *];exact qc (by simp only[simprocAttr,R0,qe,p303,Rs.ev,qb, *])
def xQ(a0:qa)(a1:qa)(a2:List L3)(aE:Int)(s:Unit):Option ((Unit)⊕((Unit)⊕Int)):=
 (getI a2 aE).bind fun x7=>
(F303 a0 a1 x7 0).bind fun x9=>
if x9=true then
 some (.inl ())
else
 some (.inr (.inr 2))
def F270_1_D(a0:qa)(a1:qa)(a2:List L3)(aE:Int)(s:Unit):Option ((Unit)⊕Int):=
 some (.inl ())
def F270(a0:qa)(a1:qa)(a2:List L3):Option Int:=
 (F302 a0 a1).bind fun x1=>
 if x1=0 then
  (forR 0 (a2.length:Int) (xQ a0 a1 a2) (F270_1_D a0 a1 a2) ()).bind fun tE=> match tE with
   | .inl _=>
    some 0
   | .inr y4=> some y4
 else
  some x1
def I270_1(a0:qa)(a1:qa)(a2:List L3)(aE:Int)(s:Unit)(e:Env)(h:Heap):Prop:=
 ∃k5:Nat,h=⟨[(0,none),(0,none)],k5⟩∧e.length=29∧e.at 2=iL a2∧e.at 3=eP a0∧e.at 4=eP a1∧e.at 8=iI aE
def P270_1(a0:qa)(a1:qa)(a2:List L3)(t:(Unit)⊕Int)(x:Ex)(e:Env)(h:Heap):Prop:=
 match t with
 | .inl _=> x= .normal∧∃k5:Nat,h=⟨[(0,none),(0,none)],k5⟩∧e.length=29
 | .inr r=> x= .ret∧Fin p270 (enc r) .ret e h
theorem l270_1(a0:qa)(a1:qa)(a2:List L3){lo:Int}{s:Unit}{t:(Unit)⊕Int}(hF:forR lo (a2.length:Int) (xQ a0 a1 a2) (F270_1_D a0 a1 a2) s=some t){e:Env}{h:Heap}(hI:I270_1 a0 a1 a2 lo s e h):W A c270_1 e h (P270_1 a0 a1 a2 t):=by
 show W A (.block 0 (.loop false b270_1)) e h _;rw[qj];refine qz hF 2 (by obtain⟨_,rfl,_⟩:=hI; rfl) (I270_1 a0 a1 a2) hI ?_ ?_
 ·rintro aE _ e h ⟨k5,rfl,h_4⟩ hlt hw o ho
  unfold xQ at ho;obtain⟨x7,dF,ho⟩:=bS ho;obtain⟨mR,mE⟩:=qg dF;obtain⟨x9,eJ,ho⟩:=bS ho;have pC:=s303 a0 a1 x7 0 eJ;cases x9 with
  |true=>
   rw[if_pos rfl]at ho;cases ho;simp only[simprocAttr,R0,b270_1, *];refine ai rfl (ei _ (ai rfl ?_));simp only[simprocAttr,R0, *]
  |false=>
   rw[if_neg wD]at ho;cases ho;simp only[simprocAttr,R0,b270_1, *];intro ht; subst ht;simp only[simprocAttr,RR,RB];exact ai rfl (qc (by simp only[simprocAttr,R0,qe,p270,Rs.ev,qb, *]))
 ·rintro aE _ e h ⟨k5,rfl,h_4⟩ hge t1 ho
  unfold F270_1_D at ho;cases ho;simp only[simprocAttr,R0,b270_1, *];intro ht; subst ht;refine ai rfl (ei _ (ai rfl ?_));simp only[simprocAttr,R0, *]
theorem s270(a0:qa)(a1:qa)(a2:List L3){r:Int}(hF:F270 a0 a1 a2=some r):ans A 270 [(eC a0),(eC a1),iL a2]=some (enc r):=by
 refine qv (f:=p270) rfl rfl rfl fun e hl he=>?_;have aA:=he 0 _ rfl;have aB:=he 1 _ rfl;have aN:=he 2 _ rfl;have hl_0:e.length=29:=hl;clear he hl;have h_0:=ai hl_0 (ai aA (ai aB aN));show W A b270 e ⟨[],0⟩ _;unfold F270 at hF;obtain⟨x1,bI,hF⟩:=bS hF;have w2:=s302 a0 a1 bI;by_cases c3:x1=0
 ·rw[if_pos c3]at hF
  obtain⟨tE,kJ,hF⟩:=bS hF;rcases tE with _|y4
  ·dsimp only at hF
   simp only[simprocAttr,R0,b270, *];refine W.mono (l270_1 a0 a1 a2 kJ (ei _ (ai rfl ?_))) ?_
   ·simp only[simprocAttr,R0, *]
   rintro _ e _ ⟨rfl,k5,rfl,hl_6⟩;cases hF;simp only[simprocAttr,R0, *];exact qc (by simp only[simprocAttr,R0,qe,p270,Rs.ev,qb, *])
  ·dsimp only at hF
   cases hF;simp only[simprocAttr,R0,b270, *];refine W.mono (l270_1 a0 a1 a2 kJ (ei _ (ai rfl ?_))) ?_
   ·simp only[simprocAttr,R0, *]
   rintro _ e h ⟨rfl,hq⟩;simp only[simprocAttr,RR,RB];exact hq
 ·rw[if_neg c3]at hF
  cases hF;simp only[simprocAttr,R0,b270, *];exact qc (by simp only[simprocAttr,R0,qe,p270,Rs.ev,qb, *])
def F287_1_B(a0:L1)(a1:L1)(bC:Int)(s:Unit):Option ((Unit)⊕((Unit)⊕Bool)):=
 (getI a0 bC).bind fun x5=>
(getI a1 bC).bind fun x7=>
if x5=x7 then
 some (.inl ())
else
 some (.inr (.inr false))
def F287_1_D(a0:L1)(a1:L1)(bC:Int)(s:Unit):Option ((Unit)⊕Bool):=
 some (.inl ())
def F287(a0:L1)(a1:L1):Option Bool:=
 if(a0.length:Int)=(a1.length:Int)then
  (forR 0 (a0.length:Int) (F287_1_B a0 a1) (F287_1_D a0 a1) ()).bind fun nN=> match nN with
   | .inl _=>
    some true
   | .inr pE=> some pE
 else
  some false
def I287_1(a0:L1)(a1:L1)(bC:Int)(s:Unit)(e:Env)(h:Heap):Prop:=
 ∃k3:Nat,h=⟨[],k3⟩∧e.length=26∧e.at 0=iL a0∧e.at 1=iL a1∧e.at 5=iI bC
def P287_1(a0:L1)(a1:L1)(t:(Unit)⊕Bool)(x:Ex)(e:Env)(h:Heap):Prop:=
 match t with
 | .inl _=> x= .normal∧∃k3:Nat,h=⟨[],k3⟩∧e.length=26
 | .inr r=> x= .ret∧Fin p287 (enc r) .ret e h
theorem l287_1(a0:L1)(a1:L1){lo:Int}{s:Unit}{t:(Unit)⊕Bool}(hF:forR lo (a0.length:Int) (F287_1_B a0 a1) (F287_1_D a0 a1) s=some t){e:Env}{h:Heap}(hI:I287_1 a0 a1 lo s e h):W A c287_1 e h (P287_1 a0 a1 t):=by
 show W A (.block 0 (.loop false b287_1)) e h _;rw[qj];refine qz hF 0 (by obtain⟨_,rfl,_⟩:=hI; rfl) (I287_1 a0 a1) hI ?_ ?_
 ·rintro bC _ e h ⟨k3,rfl,h_2⟩ hlt hw o ho
  unfold F287_1_B at ho;obtain⟨x5,dC,ho⟩:=bS ho;obtain⟨iE,iD⟩:=qg dC;obtain⟨x7,dF,ho⟩:=bS ho;obtain⟨mR,mE⟩:=qg dF;by_cases c9:x5=x7
  ·rw[if_pos c9]at ho
   cases ho;simp only[simprocAttr,R0,b287_1, *];refine ai rfl (ei _ (ai rfl ?_));simp only[simprocAttr,R0, *]
  ·rw[if_neg c9]at ho
   cases ho;simp only[simprocAttr,R0,b287_1, *];intro ht; subst ht;simp only[simprocAttr,RR,RB];exact ai rfl (qc (by simp only[simprocAttr,R0,qe,p287,Rs.ev,qb, *]))
 ·rintro bC _ e h ⟨k3,rfl,h_2⟩ hge t1 ho
  unfold F287_1_D at ho;cases ho;simp only[simprocAttr,R0,b287_1, *];intro ht; subst ht;refine ai rfl (ei _ (ai rfl ?_));simp only[simprocAttr,R0, *]
theorem s287(a0:L1)(a1:L1){r:Bool}(hF:F287 a0 a1=some r):ans A 287 [iL a0,iL a1]=some (enc r):=by
 refine qv (f:=p287) rfl rfl rfl fun e hl he=>?_;have aA:=he 0 _ rfl;have aB:=he 1 _ rfl;have hl_0:e.length=26:=hl;clear he hl;have h_0:=ai hl_0 (ai aA aB);show W A b287 e ⟨[],0⟩ _;unfold F287 at hF;by_cases c1:(a0.length:Int)=(a1.length:Int)
 ·rw[if_pos c1]at hF
  obtain⟨nN,lB,hF⟩:=bS hF;rcases nN with _|pE
  ·dsimp only at hF
   simp only[simprocAttr,R0,b287, *];refine W.mono (l287_1 a0 a1 lB (ei _ (ai rfl ?_))) ?_
   ·simp only[simprocAttr,R0, *]
   rintro _ e _ ⟨rfl,k3,rfl,hl_4⟩;cases hF;simp only[simprocAttr,R0, *];exact qc (by simp only[simprocAttr,R0,qe,p287,Rs.ev,qb, *])
  ·dsimp only at hF
   cases hF;simp only[simprocAttr,R0,b287, *];refine W.mono (l287_1 a0 a1 lB (ei _ (ai rfl ?_))) ?_
   ·simp only[simprocAttr,R0, *]
   rintro _ e h ⟨rfl,hq⟩;simp only[simprocAttr,RR,RB];exact hq
 ·rw[if_neg c1]at hF
  cases hF;simp only[simprocAttr,R0,b287, *];exact qc (by simp only[simprocAttr,R0,qe,p287,Rs.ev,qb, *])
def F271_2_S(a0:qa)(a1:qa)(a2:L3)(aR:Int)(kA:Int):Option ((Int)⊕((Unit)⊕Bool)):=
 (getI a0.D aR).bind fun x7=>
if kA < x7 then
 (F272 x7 kA).bind fun dI=>
 (chk (aR - 1)).bind fun dG=>
 (F273 a0 aR dI).bind fun bD=>
 (F304 a0 a1 a2 dG 0 bD).bind fun cQ=>
 (getI a2 aR).bind fun dU=>
 (getI dU kA).bind fun eA=>
 (F273 a1 aR eA).bind fun dA=>
 (F287 cQ dA).bind fun cU=>
 if cU=true then
  (chk (kA+1)).bind fun iW=>
  some (.inl iW)
 else
  some (.inr (.inr false))
else
 some (.inr (.inl ()))
def F271_1_B(a0:qa)(a1:qa)(a2:L3)(aR:Int)(s:Unit):Option ((Unit)⊕((Unit)⊕Bool)):=
 (qA (F271_2_S a0 a1 a2 aR) 0).bind fun tC=> match tC with
 | .inl _=>
  some (.inl ())
 | .inr v9=> some (.inr (.inr v9))
def F271_1_D(a0:qa)(a1:qa)(a2:L3)(aR:Int)(s:Unit):Option ((Unit)⊕Bool):=
 some (.inl ())
def F271(a0:qa)(a1:qa)(a2:L3):Option Bool:=
 (forR 1 (a0.D.length:Int) (F271_1_B a0 a1 a2) (F271_1_D a0 a1 a2) ()).bind fun tB=> match tB with
  | .inl _=>
   some true
  | .inr v8=> some v8
def I271_2(a0:qa)(a1:qa)(a2:L3)(aR:Int)(kA:Int)(e:Env)(h:Heap):Prop:=
 ∃k5:Nat,h=⟨[(0,none),(0,none)],k5⟩∧e.length=55∧e.at 2=iL a2∧e.at 3=eP a0∧e.at 4=eP a1∧e.at 7=iI aR∧e.at 8=iI kA
def P271_2(a0:qa)(a1:qa)(a2:L3)(aR:Int)(t:(Unit)⊕Bool)(x:Ex)(e:Env)(h:Heap):Prop:=
 match t with
 | .inl _=> x= .normal∧∃k5:Nat,h=⟨[(0,none),(0,none)],k5⟩∧e.length=55∧e.at 2=iL a2∧e.at 3=eP a0∧e.at 4=eP a1∧e.at 7=iI aR
 | .inr r=> x= .ret∧Fin p271 (enc r) .ret e h
theorem l271_2(a0:qa)(a1:qa)(a2:L3)(aR:Int){s:Int}{t:(Unit)⊕Bool}(hF:qA (F271_2_S a0 a1 a2 aR) s=some t){e:Env}{h:Heap}(hI:I271_2 a0 a1 a2 aR s e h):W A c271_2 e h (P271_2 a0 a1 a2 aR t):=by
 show W A (.block 2 (.loop false b271_2)) e h _;rw[qj];refine zi hF 2 (by obtain⟨_,rfl,_⟩:=hI; rfl) (I271_2 a0 a1 a2 aR) hI ?_
 ·rintro kA e h ⟨k5,rfl,h_4⟩ o ho
  unfold F271_2_S at ho;obtain⟨x7,dF,ho⟩:=bS ho;obtain⟨mR,mE⟩:=qg dF;by_cases c9:kA < x7
  ·rw[if_pos c9]at ho
   obtain⟨dI,dY,ho⟩:=bS ho;have pP:=s272 x7 kA dY;obtain⟨dG,dQ,ho⟩:=bS ho;have pM:=qu dQ;obtain⟨bD,cD,ho⟩:=bS ho;have mT:=s273 a0 aR dI cD;obtain⟨cQ,dP,ho⟩:=bS ho;have f0:=s304 a0 a1 a2 dG 0 bD dP;obtain⟨dU,eL,ho⟩:=bS ho;obtain⟨lM,kO⟩:=qg eL;obtain⟨eA,dV,ho⟩:=bS ho;obtain⟨r7,r6⟩:=qg dV;obtain⟨dA,dL,ho⟩:=bS ho;have sL:=s273 a1 aR eA dL;obtain⟨cU,iC,ho⟩:=bS ho;have cy:=s287 cQ dA iC;cases cU with
   |true=>
    rw[if_pos rfl]at ho;obtain⟨iW,iB,ho⟩:=bS ho;have m6:=qu iB;cases ho;simp only[simprocAttr,R0,b271_2, *];refine ai rfl (ei _ (ai rfl ?_));simp only[simprocAttr,R0, *]
   |false=>
    rw[if_neg wD]at ho;cases ho;simp only[simprocAttr,R0,b271_2, *];intro ht; subst ht;simp only[simprocAttr,RR,RB];exact ai rfl (qc (by simp only[simprocAttr,R0,qe,p271,Rs.ev,qb, *]))
  ·rw[if_neg c9]at ho
   cases ho;simp only[simprocAttr,R0,b271_2, *];intro ht; subst ht;simp only[simprocAttr,RR,RB];refine ai rfl (ei _ (ai rfl ?_));simp only[simprocAttr,R0, *]
def I271_1(a0:qa)(a1:qa)(a2:L3)(aR:Int)(s:Unit)(e:Env)(h:Heap):Prop:=
 ∃k2:Nat,h=⟨[(0,none),(0,none)],k2⟩∧e.length=55∧e.at 2=iL a2∧e.at 3=eP a0∧e.at 4=eP a1∧e.at 7=iI aR
def P271_1(a0:qa)(a1:qa)(a2:L3)(t:(Unit)⊕Bool)(x:Ex)(e:Env)(h:Heap):Prop:=
 match t with
 | .inl _=> x= .normal∧∃k2:Nat,h=⟨[(0,none),(0,none)],k2⟩∧e.length=55
 | .inr r=> x= .ret∧Fin p271 (enc r) .ret e h
theorem l271_1(a0:qa)(a1:qa)(a2:L3){lo:Int}{s:Unit}{t:(Unit)⊕Bool}(hF:forR lo (a0.D.length:Int) (F271_1_B a0 a1 a2) (F271_1_D a0 a1 a2) s=some t){e:Env}{h:Heap}(hI:I271_1 a0 a1 a2 lo s e h):W A c271_1 e h (P271_1 a0 a1 a2 t):=by
 show W A (.block 0 (.loop false b271_1)) e h _;rw[qj];refine qz hF 2 (by obtain⟨_,rfl,_⟩:=hI; rfl) (I271_1 a0 a1 a2) hI ?_ ?_
 ·rintro aR _ e h ⟨k2,rfl,h_1⟩ hlt hw o ho
  unfold F271_1_B at ho;obtain⟨tC,kI,ho⟩:=bS ho;rcases tC with _|v9
  ·dsimp only at ho
   simp only[simprocAttr,R0,b271_1, *];refine W.mono (l271_2 a0 a1 a2 aR kI (ei _ (ai rfl ?_))) ?_
   ·simp only[simprocAttr,R0, *]
   rintro _ e _ ⟨rfl,k5,rfl,h_6⟩;cases ho;simp only[simprocAttr,R0, *];refine ai rfl (ei _ (ai rfl ?_));simp only[simprocAttr,R0, *]
  ·dsimp only at ho
   cases ho;simp only[simprocAttr,R0,b271_1, *];refine W.mono (l271_2 a0 a1 a2 aR kI (ei _ (ai rfl ?_))) ?_
   ·simp only[simprocAttr,R0, *]
   rintro _ e h ⟨rfl,hq⟩;simp only[simprocAttr,RR,RB];intro ht; subst ht;simp only[simprocAttr,RR,RB];exact ai rfl hq
 ·rintro aR _ e h ⟨k2,rfl,h_1⟩ hge t1 ho
  unfold F271_1_D at ho;cases ho;simp only[simprocAttr,R0,b271_1, *];intro ht; subst ht;refine ai rfl (ei _ (ai rfl ?_));simp only[simprocAttr,R0, *]
theorem s271(a0:qa)(a1:qa)(a2:L3){r:Bool}(hF:F271 a0 a1 a2=some r):ans A 271 [(eC a0),(eC a1),iL a2]=some (enc r):=by
 refine qv (f:=p271) rfl rfl rfl fun e hl he=>?_;have aA:=he 0 _ rfl;have aB:=he 1 _ rfl;have aN:=he 2 _ rfl;have hl_0:e.length=55:=hl;clear he hl;have h_0:=ai hl_0 (ai aA (ai aB aN));show W A b271 e ⟨[],0⟩ _;unfold F271 at hF;obtain⟨tB,kH,hF⟩:=bS hF;rcases tB with _|v8
 ·dsimp only at hF
  simp only[simprocAttr,R0,b271, *];refine W.mono (l271_1 a0 a1 a2 kH (ei _ (ai rfl ?_))) ?_
  ·simp only[simprocAttr,R0, *]
  rintro _ e _ ⟨rfl,k2,rfl,hl_3⟩;cases hF;simp only[simprocAttr,R0, *];exact qc (by simp only[simprocAttr,R0,qe,p271,Rs.ev,qb, *])
 ·dsimp only at hF
  cases hF;simp only[simprocAttr,R0,b271, *];refine W.mono (l271_1 a0 a1 a2 kH (ei _ (ai rfl ?_))) ?_
  ·simp only[simprocAttr,R0, *]
  rintro _ e h ⟨rfl,hq⟩;simp only[simprocAttr,RR,RB];exact hq
def xR(a0:qa)(a1:qa)(a2:List L3)(aE:Int)(s:Unit):Option ((Unit)⊕((Unit)⊕Int)):=
 (getI a2 aE).bind fun x7=>
(F271 a0 a1 x7).bind fun x9=>
if x9=true then
 some (.inl ())
else
 some (.inr (.inr 5))
def F242_1_D(a0:qa)(a1:qa)(a2:List L3)(aE:Int)(s:Unit):Option ((Unit)⊕Int):=
 some (.inl ())
def F242(a0:qa)(a1:qa)(a2:List L3):Option Int:=
 (F270 a0 a1 a2).bind fun x1=>
 if x1=0 then
  (forR 0 (a2.length:Int) (xR a0 a1 a2) (F242_1_D a0 a1 a2) ()).bind fun tE=> match tE with
   | .inl _=>
    some 0
   | .inr y4=> some y4
 else
  some x1
def I242_1(a0:qa)(a1:qa)(a2:List L3)(aE:Int)(s:Unit)(e:Env)(h:Heap):Prop:=
 ∃k5:Nat,h=⟨[(0,none),(0,none)],k5⟩∧e.length=30∧e.at 2=iL a2∧e.at 3=eP a0∧e.at 4=eP a1∧e.at 8=iI aE
def P242_1(a0:qa)(a1:qa)(a2:List L3)(t:(Unit)⊕Int)(x:Ex)(e:Env)(h:Heap):Prop:=
 match t with
 | .inl _=> x= .normal∧∃k5:Nat,h=⟨[(0,none),(0,none)],k5⟩∧e.length=30
 | .inr r=> x= .ret∧Fin p242 (enc r) .ret e h
theorem l242_1(a0:qa)(a1:qa)(a2:List L3){lo:Int}{s:Unit}{t:(Unit)⊕Int}(hF:forR lo (a2.length:Int) (xR a0 a1 a2) (F242_1_D a0 a1 a2) s=some t){e:Env}{h:Heap}(hI:I242_1 a0 a1 a2 lo s e h):W A c242_1 e h (P242_1 a0 a1 a2 t):=by
 show W A (.block 0 (.loop false b242_1)) e h _;rw[qj];refine qz hF 2 (by obtain⟨_,rfl,_⟩:=hI; rfl) (I242_1 a0 a1 a2) hI ?_ ?_
 ·rintro aE _ e h ⟨k5,rfl,h_4⟩ hlt hw o ho
  unfold xR at ho;obtain⟨x7,dF,ho⟩:=bS ho;obtain⟨mR,mE⟩:=qg dF;obtain⟨x9,eJ,ho⟩:=bS ho;have pC:=s271 a0 a1 x7 eJ;cases x9 with
  |true=>
   rw[if_pos rfl]at ho;cases ho;simp only[simprocAttr,R0,b242_1, *];refine ai rfl (ei _ (ai rfl ?_));simp only[simprocAttr,R0, *]
  |false=>
   rw[if_neg wD]at ho;cases ho;simp only[simprocAttr,R0,b242_1, *];intro ht; subst ht;simp only[simprocAttr,RR,RB];exact ai rfl (qc (by simp only[simprocAttr,R0,qe,p242,Rs.ev,qb, *]))
 ·rintro aE _ e h ⟨k5,rfl,h_4⟩ hge t1 ho
  unfold F242_1_D at ho;cases ho;simp only[simprocAttr,R0,b242_1, *];intro ht; subst ht;refine ai rfl (ei _ (ai rfl ?_));simp only[simprocAttr,R0, *]
theorem s242(a0:qa)(a1:qa)(a2:List L3){r:Int}(hF:F242 a0 a1 a2=some r):ans A 242 [(eC a0),(eC a1),iL a2]=some (enc r):=by
 refine qv (f:=p242) rfl rfl rfl fun e hl he=>?_;have aA:=he 0 _ rfl;have aB:=he 1 _ rfl;have aN:=he 2 _ rfl;have hl_0:e.length=30:=hl;clear he hl;have h_0:=ai hl_0 (ai aA (ai aB aN));show W A b242 e ⟨[],0⟩ _;unfold F242 at hF;obtain⟨x1,bI,hF⟩:=bS hF;have w2:=s270 a0 a1 a2 bI;by_cases c3:x1=0
 ·rw[if_pos c3]at hF
  obtain⟨tE,kJ,hF⟩:=bS hF;rcases tE with _|y4
  ·dsimp only at hF
   simp only[simprocAttr,R0,b242, *];refine W.mono (l242_1 a0 a1 a2 kJ (ei _ (ai rfl ?_))) ?_
   ·simp only[simprocAttr,R0, *]
   rintro _ e _ ⟨rfl,k5,rfl,hl_6⟩;cases hF;simp only[simprocAttr,R0, *];exact qc (by simp only[simprocAttr,R0,qe,p242,Rs.ev,qb, *])
  ·dsimp only at hF
   cases hF;simp only[simprocAttr,R0,b242, *];refine W.mono (l242_1 a0 a1 a2 kJ (ei _ (ai rfl ?_))) ?_
   ·simp only[simprocAttr,R0, *]
   rintro _ e h ⟨rfl,hq⟩;simp only[simprocAttr,RR,RB];exact hq
 ·rw[if_neg c3]at hF
  cases hF;simp only[simprocAttr,R0,b242, *];exact qc (by simp only[simprocAttr,R0,qe,p242,Rs.ev,qb, *])
def F459_3_S(a0:qa)(a1:qa)(a2:L3)(a3:L3)(a4:L3)(x9:L3)(aI:Int)(aQ:Int)(eR:L1)(fT:L1)(s:L1×Int):Option ((L1×Int)⊕(L1)):=
 match s with
 |(cR,bL)=>
  if bL < ((cR.length:Nat):Int)then
   (getI cR bL).bind fun pL=>
   (getI fT bL).bind fun pK=>
   (chk (pL+pK)).bind fun j9=>
   (remI j9 a0.P).bind fun xX=>
   (setI cR bL xX).bind fun i5=>
   (chk (bL+1)).bind fun xV=>
   some (.inl (i5,xV))
  else
   some (.inr cR)
def F459_3v1_S(a0:qa)(a1:qa)(a2:L3)(a3:L3)(a4:L3)(x9:L3)(aI:Int)(aQ:Int)(lE:L1)(s:L1×Int):Option ((L1×Int)⊕(L1)):=
 match s with
 |(cS,bL)=>
  if bL < ((cS.length:Nat):Int)then
   (getI cS bL).bind fun pI=>
   (getI lE bL).bind fun uY=>
   (chk (pI+uY)).bind fun uX=>
   (remI uX a0.P).bind fun rV=>
   (setI cS bL rV).bind fun lv=>
   (chk (bL+1)).bind fun j7=>
   some (.inl (lv,j7))
  else
   some (.inr cS)
def xN(a0:qa)(a1:qa)(a2:L3)(a3:L3)(a4:L3)(x9:L3)(aI:Int)(aQ:Int):Option ((Int)⊕((Unit)⊕(T2 Bool Int))):=
 (getI a0.D aI).bind fun dU=>
if aQ < dU then
 (F99 a1 aI).bind fun dN=>
 (mkL 8 dN 0).bind fun eR=>
 (chk (aI+1)).bind fun iG=>
 if iG < (a2.length:Int)then
  (getI a4 aI).bind fun iV=>
  (getI iV aQ).bind fun iU=>
  (F273 a1 iG iU).bind fun cW=>
  if 0 < aI then
   (chk (aI - 1)).bind fun fU=>
   (F272 dU aQ).bind fun eW=>
   (F273 a0 aI eW).bind fun nH=>
   (F304 a0 a1 a4 fU 1 nH).bind fun fT=>
   (qA (F459_3_S a0 a1 a2 a3 a4 x9 aI aQ eR fT) (cW,0)).bind fun cK=>
   (getI x9 aI).bind fun oY=>
   (getI oY aQ).bind fun oX=>
   (F287 cK oX).bind fun iF=>
   if iF=true then
    (chk (aQ+1)).bind fun j8=>
    some (.inl j8)
   else
    some (.inr (.inr ⟨false,0⟩))
  else
   (getI x9 aI).bind fun x63=>
   (getI x63 aQ).bind fun dy=>
   (F287 cW dy).bind fun nG=>
   if nG=true then
    (chk (aQ+1)).bind fun pJ=>
    some (.inl pJ)
   else
    some (.inr (.inr ⟨false,0⟩))
 else
  if 0 < aI then
   (chk (aI - 1)).bind fun uZ=>
   (F272 dU aQ).bind fun nF=>
   (F273 a0 aI nF).bind fun dv=>
   (F304 a0 a1 a4 uZ 1 dv).bind fun lE=>
   (qA (F459_3v1_S a0 a1 a2 a3 a4 x9 aI aQ lE) (eR,0)).bind fun cL=>
   (getI x9 aI).bind fun uW=>
   (getI uW aQ).bind fun uV=>
   (F287 cL uV).bind fun x98=>
   if x98=true then
    (chk (aQ+1)).bind fun mQ=>
    some (.inl mQ)
   else
    some (.inr (.inr ⟨false,0⟩))
  else
   (getI x9 aI).bind fun mP=>
   (getI mP aQ).bind fun lL=>
   (F287 eR lL).bind fun rZ=>
   if rZ=true then
    (chk (aQ+1)).bind fun l7=>
    some (.inl l7)
   else
    some (.inr (.inr ⟨false,0⟩))
else
 some (.inr (.inl ()))
def F459_1_B(a0:qa)(a1:qa)(a2:L3)(a3:L3)(a4:L3)(x9:L3)(aI:Int)(s:Unit):Option ((Unit)⊕((Unit)⊕(T2 Bool Int))):=
 (qA (xN a0 a1 a2 a3 a4 x9 aI) 0).bind fun tF=> match tF with
 | .inl _=>
  some (.inl ())
 | .inr z4=> some (.inr (.inr z4))
def F459_1_D(a0:qa)(a1:qa)(a2:L3)(a3:L3)(a4:L3)(x9:L3)(aI:Int)(s:Unit):Option ((Unit)⊕(T2 Bool Int)):=
 some (.inl ())
def F459(a0:qa)(a1:qa)(a2:L3)(a3:L3)(a4:L3):Option (T2 Bool Int):=
 (F270 a0 a1 [a2,a3]).bind fun x1=>
 if x1=0 then
  (F303 a0 a1 a4 1).bind fun x4=>
  if x4=true then
   (F242 a0 a1 [a2,a3]).bind fun x6=>
   if x6=0 then
    (F490 a0.P a2 a3 (-1)).bind fun x9=>
    (forR 0 (a2.length:Int) (F459_1_B a0 a1 a2 a3 a4 x9) (F459_1_D a0 a1 a2 a3 a4 x9) ()).bind fun tD=> match tD with
     | .inl _=>
      some ⟨true,0⟩
     | .inr y7=> some y7
   else
    some ⟨false,x6⟩
  else
   some ⟨false,2⟩
 else
  some ⟨false,x1⟩
def I459_3(a0:qa)(a1:qa)(a2:L3)(a3:L3)(a4:L3)(x9:L3)(aI:Int)(aQ:Int)(eR:L1)(fT:L1)(mH:Nat)(s:L1×Int)(e:Env)(h:Heap):Prop:=
 match s with
 |(cR,bL)=>
  ∃sX ag:Nat,h=⟨[(0,none),(0,none),(2,some [iL a2,iL a3]),(3,some [iL a2,iL a3]),(mH,some (eR.map enc)),(sX,some (cR.map enc))],ag⟩∧e.length=134∧e.at 2=iL a2∧e.at 4=iL a4∧e.at 5=eP a0∧e.at 6=eP a1∧e.at 13=iL x9∧e.at 14=iI aI∧e.at 15=iI aQ∧e.at 16=V.sl 5 sX 0 cR.length 1∧e.at 17=iL fT∧e.at 18=iI bL
def P459_3(a0:qa)(a1:qa)(a2:L3)(a3:L3)(a4:L3)(x9:L3)(aI:Int)(aQ:Int)(eR:L1)(fT:L1)(mH:Nat)(cK:L1)(x:Ex)(e:Env)(h:Heap):Prop:=
 x= .normal∧∃sX ag:Nat,h=⟨[(0,none),(0,none),(2,some [iL a2,iL a3]),(3,some [iL a2,iL a3]),(mH,some (eR.map enc)),(sX,some (cK.map enc))],ag⟩∧e.length=134∧e.at 2=iL a2∧e.at 4=iL a4∧e.at 5=eP a0∧e.at 6=eP a1∧e.at 13=iL x9∧e.at 14=iI aI∧e.at 15=iI aQ∧e.at 16=V.sl 5 sX 0 cK.length 1
theorem l459_3(a0:qa)(a1:qa)(a2:L3)(a3:L3)(a4:L3)(x9:L3)(aI:Int)(aQ:Int)(eR:L1)(fT:L1)(mH:Nat){s:L1×Int}{t:L1}(hF:qA (F459_3_S a0 a1 a2 a3 a4 x9 aI aQ eR fT) s=some t){e:Env}{h:Heap}(hI:I459_3 a0 a1 a2 a3 a4 x9 aI aQ eR fT mH s e h):W A c459_3 e h (P459_3 a0 a1 a2 a3 a4 x9 aI aQ eR fT mH t):=by
 show W A (.block 4 (.loop false b459_3)) e h _;rw[qj];refine zi hF 6 (by rcases s with⟨_,_⟩; obtain⟨_,_,rfl,_⟩:=hI; rfl) (I459_3 a0 a1 a2 a3 a4 x9 aI aQ eR fT mH) hI ?_
 ·rintro⟨cR,bL⟩ e h ⟨sX,ag,rfl,h_40⟩ o ho
  unfold F459_3_S at ho;dsimp only at ho;by_cases cn:bL < ((cR.length:Nat):Int)
  ·rw[if_pos cn]at ho
   obtain⟨pL,nC,ho⟩:=bS ho;obtain⟨ib,o6⟩:=qg nC;have w46c:=qY nC;have w46d:List.drop (Int.toNat bL) (cR.map enc)=(iI pL)::List.drop ((Int.toNat bL)+1) (cR.map enc):=jf o6;obtain⟨pK,nZ,ho⟩:=bS ho;obtain⟨ia,gu⟩:=qg nZ;obtain⟨j9,uL,ho⟩:=bS ho;have wx49:=qu uL;obtain⟨xX,uK,ho⟩:=bS ho;obtain⟨w51a,w51b⟩:=rem_w uK;obtain⟨i5,pX,ho⟩:=bS ho;obtain⟨w53a,w53b,w53c,w53d,o0⟩:=jy pX;replace o0:List.take (Int.toNat bL) (cR.map enc)++[iI xX]++List.drop (Int.toNat bL+1) (cR.map enc)=List.map enc i5:=o0;obtain⟨xV,uI,ho⟩:=bS ho;have wx54:=qu uI;cases ho;simp only[simprocAttr,R0,b459_3, *];refine ai rfl (ei _ (ei _ (ai rfl ?_)));simp only[simprocAttr,R0, *]
  ·rw[if_neg cn]at ho
   cases ho;simp only[simprocAttr,R0,b459_3, *];intro ht; subst ht;simp only[simprocAttr,RR,RB];refine ai rfl (ei _ (ei _ (ai rfl ?_)));simp only[simprocAttr,R0, *]
def I459_3v1(a0:qa)(a1:qa)(a2:L3)(a3:L3)(a4:L3)(x9:L3)(aI:Int)(aQ:Int)(lE:L1)(s:L1×Int)(e:Env)(h:Heap):Prop:=
 match s with
 |(cS,bL)=>
  ∃sV z9:Nat,h=⟨[(0,none),(0,none),(2,some [iL a2,iL a3]),(3,some [iL a2,iL a3]),(sV,some (cS.map enc))],z9⟩∧e.length=134∧e.at 2=iL a2∧e.at 4=iL a4∧e.at 5=eP a0∧e.at 6=eP a1∧e.at 13=iL x9∧e.at 14=iI aI∧e.at 15=iI aQ∧e.at 16=V.sl 4 sV 0 cS.length 1∧e.at 17=iL lE∧e.at 18=iI bL
def P459_3v1(a0:qa)(a1:qa)(a2:L3)(a3:L3)(a4:L3)(x9:L3)(aI:Int)(aQ:Int)(lE:L1)(cL:L1)(x:Ex)(e:Env)(h:Heap):Prop:=
 x= .normal∧∃sV z9:Nat,h=⟨[(0,none),(0,none),(2,some [iL a2,iL a3]),(3,some [iL a2,iL a3]),(sV,some (cL.map enc))],z9⟩∧e.length=134∧e.at 2=iL a2∧e.at 4=iL a4∧e.at 5=eP a0∧e.at 6=eP a1∧e.at 13=iL x9∧e.at 14=iI aI∧e.at 15=iI aQ∧e.at 16=V.sl 4 sV 0 cL.length 1
theorem l459_3v1(a0:qa)(a1:qa)(a2:L3)(a3:L3)(a4:L3)(x9:L3)(aI:Int)(aQ:Int)(lE:L1){s:L1×Int}{t:L1}(hF:qA (F459_3v1_S a0 a1 a2 a3 a4 x9 aI aQ lE) s=some t){e:Env}{h:Heap}(hI:I459_3v1 a0 a1 a2 a3 a4 x9 aI aQ lE s e h):W A c459_3 e h (P459_3v1 a0 a1 a2 a3 a4 x9 aI aQ lE t):=by
 show W A (.block 4 (.loop false b459_3)) e h _;rw[qj];refine zi hF 5 (by rcases s with⟨_,_⟩; obtain⟨_,_,rfl,_⟩:=hI; rfl) (I459_3v1 a0 a1 a2 a3 a4 x9 aI aQ lE) hI ?_
 ·rintro⟨cS,bL⟩ e h ⟨sV,z9,rfl,h_78⟩ o ho
  unfold F459_3v1_S at ho;dsimp only at ho;by_cases c82:bL < ((cS.length:Nat):Int)
  ·rw[if_pos c82]at ho
   obtain⟨pI,nA,ho⟩:=bS ho;obtain⟨fv,n8⟩:=qg nA;have w84c:=qY nA;have w84d:List.drop (Int.toNat bL) (cS.map enc)=(iI pI)::List.drop ((Int.toNat bL)+1) (cS.map enc):=jf n8;obtain⟨uY,tY,ho⟩:=bS ho;obtain⟨fu,ft⟩:=qg tY;obtain⟨uX,tX,ho⟩:=bS ho;have ew:=qu tX;obtain⟨rV,tW,ho⟩:=bS ho;obtain⟨w89a,w89b⟩:=rem_w tW;obtain⟨lv,pm,ho⟩:=bS ho;obtain⟨w91a,w91b,w91c,w91d,n7⟩:=jy pm;replace n7:List.take (Int.toNat bL) (cS.map enc)++[iI rV]++List.drop (Int.toNat bL+1) (cS.map enc)=List.map enc lv:=n7;obtain⟨j7,tV,ho⟩:=bS ho;have wx92:=qu tV;cases ho;simp only[simprocAttr,R0,b459_3, *];refine ai rfl (ei _ (ei _ (ai rfl ?_)));simp only[simprocAttr,R0, *]
  ·rw[if_neg c82]at ho
   cases ho;simp only[simprocAttr,R0,b459_3, *];intro ht; subst ht;simp only[simprocAttr,RR,RB];refine ai rfl (ei _ (ei _ (ai rfl ?_)));simp only[simprocAttr,R0, *]
def I459_2(a0:qa)(a1:qa)(a2:L3)(a3:L3)(a4:L3)(x9:L3)(aI:Int)(aQ:Int)(e:Env)(h:Heap):Prop:=
 ∃mH:Nat,h=⟨[(0,none),(0,none),(2,some [iL a2,iL a3]),(3,some [iL a2,iL a3])],mH⟩∧e.length=134∧e.at 2=iL a2∧e.at 4=iL a4∧e.at 5=eP a0∧e.at 6=eP a1∧e.at 13=iL x9∧e.at 14=iI aI∧e.at 15=iI aQ
def P459_2(a0:qa)(a1:qa)(a2:L3)(a3:L3)(a4:L3)(x9:L3)(aI:Int)(t:(Unit)⊕(T2 Bool Int))(x:Ex)(e:Env)(h:Heap):Prop:=
 match t with
 | .inl _=> x= .normal∧∃mH:Nat,h=⟨[(0,none),(0,none),(2,some [iL a2,iL a3]),(3,some [iL a2,iL a3])],mH⟩∧e.length=134∧e.at 2=iL a2∧e.at 4=iL a4∧e.at 5=eP a0∧e.at 6=eP a1∧e.at 13=iL x9∧e.at 14=iI aI
 | .inr r=> x= .ret∧Fin p459 (EncR.enc r) .ret e h
set_option maxHeartbeats 8000000 in
theorem l459_2(a0:qa)(a1:qa)(a2:L3)(a3:L3)(a4:L3)(x9:L3)(aI:Int){s:Int}{t:(Unit)⊕(T2 Bool Int)}(hF:qA (xN a0 a1 a2 a3 a4 x9 aI) s=some t){e:Env}{h:Heap}(hI:I459_2 a0 a1 a2 a3 a4 x9 aI s e h):W A c459_2 e h (P459_2 a0 a1 a2 a3 a4 x9 aI t):=by
 show W A (.block 2 (.loop false b459_2)) e h _;rw[qj];refine zi hF 4 (by obtain⟨_,rfl,_⟩:=hI; rfl) (I459_2 a0 a1 a2 a3 a4 x9 aI) hI ?_
 ·rintro aQ e h ⟨mH,rfl,h_14⟩ o ho
  unfold xN at ho;obtain⟨dU,eL,ho⟩:=bS ho;obtain⟨lM,kO⟩:=qg eL;by_cases c19:aQ < dU
  ·rw[if_pos c19]at ho
   obtain⟨dN,eT,ho⟩:=bS ho;have w21:=s99 a1 aI eT;obtain⟨eR,uS,ho⟩:=bS ho;obtain⟨sK,sJ,w23c,kM,q8⟩:=mkL_w uS;replace q8:(List.replicate (Int.toNat dN) [iI 0]).flatten=List.map enc eR:=q8;obtain⟨iG,kF,ho⟩:=bS ho;have ff:=qu kF;by_cases c25:iG < (a2.length:Int)
   ·rw[if_pos c25]at ho
    obtain⟨iV,kE,ho⟩:=bS ho;obtain⟨iw,iv⟩:=qg kE;obtain⟨iU,lX,ho⟩:=bS ho;obtain⟨iq,ip⟩:=qg lX;obtain⟨cW,fB,ho⟩:=bS ho;have o8:tans A 273 [1] [(eC a1),iI iG,iL iU]=some (iL cW):=t273 a1 iG iU fB;have w31t:=qX (α:=Int) cW;by_cases rQ:0 < aI
    ·rw[if_pos rQ]at ho
     obtain⟨fU,iA,ho⟩:=bS ho;have m4:=qu iA;obtain⟨eW,lV,ho⟩:=bS ho;have w35:=s272 dU aQ lV;obtain⟨nH,oA,ho⟩:=bS ho;have w37:=s273 a0 aI eW oA;obtain⟨fT,lU,ho⟩:=bS ho;have w39:=s304 a0 a1 a4 fU 1 nH lU;obtain⟨cK,oz,ho⟩:=bS ho;simp only[simprocAttr, -Int.reduceNatCast',R0,b459_2, *];refine W.mono (l459_3 a0 a1 a2 a3 a4 x9 aI aQ eR fT mH oz (ei _ (ei _ (ai rfl ?_)))) ?_
     ·simp only[simprocAttr, -Int.reduceNatCast',R0, *]
     rintro _ e _ ⟨rfl,sX,ag,rfl,h_43⟩;obtain⟨oY,nY,ho⟩:=bS ho;obtain⟨w57a,w57b⟩:=qg nY;obtain⟨oX,nX,ho⟩:=bS ho;obtain⟨gg,gf⟩:=qg nX;obtain⟨iF,nW,ho⟩:=bS ho;have w61:=s287 cK oX nW;cases iF with
     |true=>
      rw[if_pos rfl]at ho;obtain⟨j8,uH,ho⟩:=bS ho;have wx62:=qu uH;cases ho;simp only[simprocAttr, -Int.reduceNatCast',R0,frzs (α:=Int) cK, *];refine ai rfl (ei _ (ai rfl ?_));simp only[simprocAttr, -Int.reduceNatCast',R0,frzs (α:=Int) cK, *]
     |false=>
      rw[if_neg wD]at ho;cases ho;simp only[simprocAttr, -Int.reduceNatCast',R0,frzs (α:=Int) cK, *];intro ht; subst ht;simp only[simprocAttr, -Int.reduceNatCast',RR,RB];exact ai rfl (qc (by simp only[simprocAttr, -Int.reduceNatCast',R0,qe,p459,Rs.ev,qb,frzs (α:=Int) cK, *]))
    ·rw[if_neg rQ]at ho
     obtain⟨x63,nw,ho⟩:=bS ho;obtain⟨w64a,w64b⟩:=qg nw;obtain⟨dy,nu,ho⟩:=bS ho;obtain⟨w66a,w66b⟩:=qg nu;obtain⟨nG,nB,ho⟩:=bS ho;have w68:=s287 cW dy nB;cases nG with
     |true=>
      rw[if_pos rfl]at ho;obtain⟨pJ,nV,ho⟩:=bS ho;have wx69:=qu nV;cases ho;simp only[simprocAttr, -Int.reduceNatCast',R0,b459_2,frzs (α:=Int) cW, *];refine ai rfl (ei _ (ai rfl ?_));simp only[simprocAttr, -Int.reduceNatCast',R0,frzs (α:=Int) cW, *]
     |false=>
      rw[if_neg wD]at ho;cases ho;simp only[simprocAttr, -Int.reduceNatCast',R0,b459_2,frzs (α:=Int) cW, *];intro ht; subst ht;simp only[simprocAttr, -Int.reduceNatCast',RR,RB];exact ai rfl (qc (by simp only[simprocAttr, -Int.reduceNatCast',R0,qe,p459,Rs.ev,qb,frzs (α:=Int) cW, *]))
   ·rw[if_neg c25]at ho
    by_cases c70:0 < aI
    ·rw[if_pos c70]at ho
     obtain⟨uZ,uG,ho⟩:=bS ho;have ey:=qu uG;obtain⟨nF,nU,ho⟩:=bS ho;have w73:=s272 dU aQ nU;obtain⟨dv,nq,ho⟩:=bS ho;have w75:=s273 a0 aI nF nq;obtain⟨lE,tZ,ho⟩:=bS ho;have w77:=s304 a0 a1 a4 uZ 1 dv tZ;obtain⟨cL,oh,ho⟩:=bS ho;simp only[simprocAttr, -Int.reduceNatCast',R0,b459_2, *];refine W.mono (l459_3v1 a0 a1 a2 a3 a4 x9 aI aQ lE oh (ei _ (ei _ (ai rfl ?_)))) ?_
     ·simp only[simprocAttr, -Int.reduceNatCast',R0, *]
     rintro _ e _ ⟨rfl,sV,z9,rfl,h_81⟩;obtain⟨uW,tU,ho⟩:=bS ho;obtain⟨fp,fo⟩:=qg tU;obtain⟨uV,tT,ho⟩:=bS ho;obtain⟨fm,fk⟩:=qg tT;obtain⟨x98,tS,ho⟩:=bS ho;have w99:=s287 cL uV tS;cases x98 with
     |true=>
      rw[if_pos rfl]at ho;obtain⟨mQ,oH,ho⟩:=bS ho;have m9:=qu oH;cases ho;simp only[simprocAttr, -Int.reduceNatCast',R0,frzs (α:=Int) cL, *];refine ai rfl (ei _ (ai rfl ?_));simp only[simprocAttr, -Int.reduceNatCast',R0,frzs (α:=Int) cL, *]
     |false=>
      rw[if_neg wD]at ho;cases ho;simp only[simprocAttr, -Int.reduceNatCast',R0,frzs (α:=Int) cL, *];intro ht; subst ht;simp only[simprocAttr, -Int.reduceNatCast',RR,RB];exact ai rfl (qc (by simp only[simprocAttr, -Int.reduceNatCast',R0,qe,p459,Rs.ev,qb,frzs (α:=Int) cL, *]))
    ·rw[if_neg c70]at ho
     obtain⟨mP,oG,ho⟩:=bS ho;obtain⟨w102a,w102b⟩:=qg oG;obtain⟨lL,oE,ho⟩:=bS ho;obtain⟨w104a,w104b⟩:=qg oE;obtain⟨rZ,bf,ho⟩:=bS ho;have w106:=s287 eR lL bf;cases rZ with
     |true=>
      rw[if_pos rfl]at ho;obtain⟨l7,be,ho⟩:=bS ho;have wx107:=qu be;cases ho;simp only[simprocAttr, -Int.reduceNatCast',R0,b459_2,frzs (α:=Int) eR,qK (α:=Int) (l:=eR) (n:=(Int.toNat dN)) (by first|rfl|simp only[kM]),qH (α:=Int) (l:=eR) (n:=(Int.toNat dN)) (by first|rfl|simp only[kM]), *];refine ai rfl (ei _ (ai rfl ?_));simp only[simprocAttr, -Int.reduceNatCast',R0,frzs (α:=Int) eR,qK (α:=Int) (l:=eR) (n:=(Int.toNat dN)) (by first|rfl|simp only[kM]),qH (α:=Int) (l:=eR) (n:=(Int.toNat dN)) (by first|rfl|simp only[kM]), *]
     |false=>
      rw[if_neg wD]at ho;cases ho;simp only[simprocAttr, -Int.reduceNatCast',R0,b459_2,frzs (α:=Int) eR,qK (α:=Int) (l:=eR) (n:=(Int.toNat dN)) (by first|rfl|simp only[kM]),qH (α:=Int) (l:=eR) (n:=(Int.toNat dN)) (by first|rfl|simp only[kM]), *];intro ht; subst ht;simp only[simprocAttr, -Int.reduceNatCast',RR,RB];exact ai rfl (qc (by simp only[simprocAttr, -Int.reduceNatCast',R0,qe,p459,Rs.ev,qb,frzs (α:=Int) eR,qK (α:=Int) (l:=eR) (n:=(Int.toNat dN)) (by first|rfl|simp only[kM]),qH (α:=Int) (l:=eR) (n:=(Int.toNat dN)) (by first|rfl|simp only[kM]), *]))
  ·rw[if_neg c19]at ho
   cases ho;simp only[simprocAttr, -Int.reduceNatCast',R0,b459_2, *];intro ht; subst ht;simp only[simprocAttr, -Int.reduceNatCast',RR,RB];refine ai rfl (ei _ (ai rfl ?_));simp only[simprocAttr, -Int.reduceNatCast',R0, *]
def I459_1(a0:qa)(a1:qa)(a2:L3)(a3:L3)(a4:L3)(x9:L3)(aI:Int)(s:Unit)(e:Env)(h:Heap):Prop:=
 ∃iS:Nat,h=⟨[(0,none),(0,none),(2,some [iL a2,iL a3]),(3,some [iL a2,iL a3])],iS⟩∧e.length=134∧e.at 2=iL a2∧e.at 4=iL a4∧e.at 5=eP a0∧e.at 6=eP a1∧e.at 13=iL x9∧e.at 14=iI aI
def P459_1(a0:qa)(a1:qa)(a2:L3)(a3:L3)(a4:L3)(x9:L3)(t:(Unit)⊕(T2 Bool Int))(x:Ex)(e:Env)(h:Heap):Prop:=
 match t with
 | .inl _=> x= .normal∧∃iS:Nat,h=⟨[(0,none),(0,none),(2,some [iL a2,iL a3]),(3,some [iL a2,iL a3])],iS⟩∧e.length=134
 | .inr r=> x= .ret∧Fin p459 (EncR.enc r) .ret e h
theorem l459_1(a0:qa)(a1:qa)(a2:L3)(a3:L3)(a4:L3)(x9:L3){lo:Int}{s:Unit}{t:(Unit)⊕(T2 Bool Int)}(hF:forR lo (a2.length:Int) (F459_1_B a0 a1 a2 a3 a4 x9) (F459_1_D a0 a1 a2 a3 a4 x9) s=some t){e:Env}{h:Heap}(hI:I459_1 a0 a1 a2 a3 a4 x9 lo s e h):W A c459_1 e h (P459_1 a0 a1 a2 a3 a4 x9 t):=by
 show W A (.block 0 (.loop false b459_1)) e h _;rw[qj];refine qz hF 4 (by obtain⟨_,rfl,_⟩:=hI; rfl) (I459_1 a0 a1 a2 a3 a4 x9) hI ?_ ?_
 ·rintro aI _ e h ⟨iS,rfl,h_11⟩ hlt hw o ho
  unfold F459_1_B at ho;obtain⟨tF,rN,ho⟩:=bS ho;rcases tF with _|z4
  ·dsimp only at ho
   simp only[simprocAttr,R0,b459_1, *];refine W.mono (l459_2 a0 a1 a2 a3 a4 x9 aI rN (ei _ (ai rfl ?_))) ?_
   ·simp only[simprocAttr,R0, *]
   rintro _ e _ ⟨rfl,mH,rfl,h_16⟩;cases ho;simp only[simprocAttr,R0, *];refine ai rfl (ei _ (ai rfl ?_));simp only[simprocAttr,R0, *]
  ·dsimp only at ho
   cases ho;simp only[simprocAttr,R0,b459_1, *];refine W.mono (l459_2 a0 a1 a2 a3 a4 x9 aI rN (ei _ (ai rfl ?_))) ?_
   ·simp only[simprocAttr,R0, *]
   rintro _ e h ⟨rfl,hq⟩;simp only[simprocAttr,RR,RB];intro ht; subst ht;simp only[simprocAttr,RR,RB];exact ai rfl hq
 ·rintro aI _ e h ⟨iS,rfl,h_11⟩ hge t1 ho
  unfold F459_1_D at ho;cases ho;simp only[simprocAttr,R0,b459_1, *];intro ht; subst ht;refine ai rfl (ei _ (ai rfl ?_));simp only[simprocAttr,R0, *]
theorem s459(a0:qa)(a1:qa)(a2:L3)(a3:L3)(a4:L3){r:T2 Bool Int}(hF:F459 a0 a1 a2 a3 a4=some r):ans A 459 [(eC a0),(eC a1),iL a2,iL a3,iL a4]=some (EncR.enc r):=by
 refine qv (f:=p459) rfl rfl rfl fun e hl he=>?_;have aA:=he 0 _ rfl;have aB:=he 1 _ rfl;have aN:=he 2 _ rfl;have bR:=he 3 _ rfl;have nT:=he 4 _ rfl;have hl_0:e.length=134:=hl;clear he hl;have h_0:=ai hl_0 (ai aA (ai aB (ai aN (ai bR nT))));show W A b459 e ⟨[],0⟩ _;unfold F459 at hF;obtain⟨x1,bI,hF⟩:=bS hF;have w2:ans A 270 [(eC a0),(eC a1),V.isl [iL a2,iL a3]]=some (iI x1):=s270 a0 a1 [a2,a3] bI;by_cases c3:x1=0
 ·rw[if_pos c3]at hF
  obtain⟨x4,dK,hF⟩:=bS hF;have w5:ans A 303 [(eC a0),(eC a1),iL a4,iI 1]=some (V.bool x4):=s303 a0 a1 a4 1 dK;cases x4 with
  |true=>
   rw[if_pos rfl]at hF;obtain⟨x6,fH,hF⟩:=bS hF;have w7:ans A 242 [(eC a0),(eC a1),V.isl [iL a2,iL a3]]=some (iI x6):=s242 a0 a1 [a2,a3] fH;by_cases c8:x6=0
   ·rw[if_pos c8]at hF
    obtain⟨x9,eJ,hF⟩:=bS hF;have pC:ans A 490 [iI a0.P,iL a2,iL a3,iI (-1)]=some (iL x9):=s490 a0.P a2 a3 (-1) eJ;obtain⟨tD,rM,hF⟩:=bS hF;rcases tD with _|y7
    ·dsimp only at hF
     simp only[simprocAttr,R0,b459, *];refine W.mono (l459_1 a0 a1 a2 a3 a4 x9 rM (ei _ (ai rfl ?_))) ?_
     ·simp only[simprocAttr,R0, *]
     rintro _ e _ ⟨rfl,iS,rfl,hl_13⟩;cases hF;simp only[simprocAttr,R0, *];exact qc (by simp only[simprocAttr,R0,qe,p459,Rs.ev,qb, *])
    ·dsimp only at hF
     cases hF;simp only[simprocAttr,R0,b459, *];refine W.mono (l459_1 a0 a1 a2 a3 a4 x9 rM (ei _ (ai rfl ?_))) ?_
     ·simp only[simprocAttr,R0, *]
     rintro _ e h ⟨rfl,hq⟩;simp only[simprocAttr,RR,RB];exact hq
   ·rw[if_neg c8]at hF
    cases hF;simp only[simprocAttr,R0,b459, *];exact qc (by simp only[simprocAttr,R0,qe,p459,Rs.ev,qb, *])
  |false=>
   rw[if_neg wD]at hF;cases hF;simp only[simprocAttr,R0,b459, *];exact qc (by simp only[simprocAttr,R0,qe,p459,Rs.ev,qb, *])
 ·rw[if_neg c3]at hF
  cases hF;simp only[simprocAttr,R0,b459, *];exact qc (by simp only[simprocAttr,R0,qe,p459,Rs.ev,qb, *])
def F460(a0:List U8):Option (T4 qa qa L3 L3):=
 (F405 a0).bind fun x1=>
 (F457 a0).bind fun x3=>
 (F416 x1 3).bind fun x5=>
 if x5.a=0 then
  (F488 x5.b x3.a x3.b).bind fun x8=>
  some ⟨x3.a,x3.b,x3.c,x8.a⟩
 else
  some ⟨x3.a,x3.b,x3.c,x3.d⟩
theorem s460(a0:List U8){r:T4 qa qa L3 L3}(hF:F460 a0=some r):ans A 460 [iL a0]=some (EncR.enc r):=by
 refine qv (f:=p460) rfl rfl rfl fun e hl he=>?_;have aA:=he 0 _ rfl;have hl_0:e.length=33:=hl;clear he hl;have h_0:=ai hl_0 aA;show W A b460 e ⟨[],0⟩ _;unfold F460 at hF;obtain⟨x1,bI,hF⟩:=bS hF;have w2:res A 405 [iL a0] ⟨[(0,some [iI 0,V.nils,V.nils]),(1,some [iI 0,V.nils,V.nils])],2⟩=some (V.ptr 2 2 0,⟨[(0,some [iI 0,V.nils,V.nils]),(1,some [iI 0,V.nils,V.nils]),(2,some (eS x1))],3⟩):=by
  obtain⟨_,w,rfl⟩:=d405 a0 bI [(0,some [iI 0,V.nils,V.nils]),(1,some [iI 0,V.nils,V.nils])] 2;exact w
 obtain⟨x3,dO,hF⟩:=bS hF;have w4:ans A 457 [iL a0]=some (V.tup [(eC x3.a),(eC x3.b),iL x3.c,iL x3.d,iL x3.e]):=s457 a0 dO;obtain⟨x5,dC,hF⟩:=bS hF;have w6:xans A 416 (eS x1) [iI 3]=some (iI x5.a,(eS x5.b)):=s416 x1 3 dC;by_cases c7:x5.a=0
 ·rw[if_pos c7]at hF
  obtain⟨x8,kC,hF⟩:=bS hF;have w9:xans A 488 (eS x5.b) [(eC x3.a),(eC x3.b)]=some (iL x8.a,(eS x8.b)):=s488 x5.b x3.a x3.b kC;cases hF;simp only[simprocAttr,R0,b460,qG,qf,qf, *];exact qc (by simp only[simprocAttr,R0,qe,p460,Rs.ev,qb,qG,qf,qf, *])
 ·rw[if_neg c7]at hF
  cases hF;simp only[simprocAttr,R0,b460,qG,qf, *];exact qc (by simp only[simprocAttr,R0,qe,p460,Rs.ev,qb,qG,qf, *])
def F137(a0:L1)(d0:Int):Option Bool:=
 (getI a0 d0).bind fun x1=>
 some (!(decide (x1=0)))
theorem s137(a0:L1)(d0:Int){r:Bool}(hF:F137 a0 d0=some r):ans A 137 [iL a0,V.iptr [iI d0]]=some (enc r):=by
 refine qv (f:=p137) rfl rfl rfl fun e hl he=>?_;have aA:=he 0 _ rfl;have aB:=he 1 _ rfl;have hl_0:e.length=9:=hl;clear he hl;show W A b137 e ⟨[],0⟩ _;unfold F137 at hF;obtain⟨x1,bI,hF⟩:=bS hF;obtain⟨nK,nJ⟩:=qg bI;cases hF;simp only[simprocAttr,R0,b137, *];exact qc (by simp only[simprocAttr,R0,qe,p137,Rs.ev,qb, *])
def F138_1_S(a0:Int)(a1:Int)(bC:Int):Option ((Int)⊕(Int)):=
 (chk (bC*a1)).bind fun x4=>
(remI x4 a0).bind fun x5=>
if x5=1 then
 some (.inr bC)
else
 (chk (bC+1)).bind fun x8=>
 some (.inl x8)
def F138(a0:Int)(a1:Int):Option Int:=
 (qA (F138_1_S a0 a1) 1).bind fun mC=>
 some mC
def I138_1(a0:Int)(a1:Int)(bC:Int)(e:Env)(h:Heap):Prop:=
 ∃k2:Nat,h=⟨[],k2⟩∧e.length=15∧e.at 0=iI a0∧e.at 1=iI a1∧e.at 5=iI bC
def P138_1(a0:Int)(a1:Int)(mC:Int)(x:Ex)(e:Env)(h:Heap):Prop:=
 x= .normal∧∃k2:Nat,h=⟨[],k2⟩∧e.length=15∧e.at 5=iI mC
theorem l138_1(a0:Int)(a1:Int){s:Int}{t:Int}(hF:qA (F138_1_S a0 a1) s=some t){e:Env}{h:Heap}(hI:I138_1 a0 a1 s e h):W A c138_1 e h (P138_1 a0 a1 t):=by
 show W A (.block 0 (.loop false b138_1)) e h _;rw[qj];refine zi hF 0 (by obtain⟨_,rfl,_⟩:=hI; rfl) (I138_1 a0 a1) hI ?_
 ·rintro bC e h ⟨k2,rfl,h_1⟩ o ho
  unfold F138_1_S at ho;obtain⟨x4,dK,ho⟩:=bS ho;have fb:=qu dK;obtain⟨x5,dC,ho⟩:=bS ho;obtain⟨iE,iD⟩:=rem_w dC;by_cases c7:x5=1
  ·rw[if_pos c7]at ho
   cases ho;simp only[simprocAttr,R0,b138_1, *];intro ht; subst ht;simp only[simprocAttr,RR,RB];refine ai rfl (ei _ (ai rfl ?_));simp only[simprocAttr,R0, *]
  ·rw[if_neg c7]at ho
   obtain⟨x8,kC,ho⟩:=bS ho;have wx8:=qu kC;cases ho;simp only[simprocAttr,R0,b138_1, *];refine ai rfl (ei _ (ai rfl ?_));simp only[simprocAttr,R0, *]
theorem s138(a0:Int)(a1:Int){r:Int}(hF:F138 a0 a1=some r):ans A 138 [iI a0,iI a1]=some (enc r):=by
 refine qv (f:=p138) rfl rfl rfl fun e hl he=>?_;have aA:=he 0 _ rfl;have aB:=he 1 _ rfl;have hl_0:e.length=15:=hl;clear he hl;show W A b138 e ⟨[],0⟩ _;unfold F138 at hF;obtain⟨mC,oj,hF⟩:=bS hF;simp only[simprocAttr,R0,b138, *];refine W.mono (l138_1 a0 a1 oj (ei _ (ai rfl ?_))) ?_
 ·simp only[simprocAttr,R0, *]
 rintro _ e _ ⟨rfl,k2,rfl,h_3⟩;cases hF;simp only[simprocAttr,R0, *];exact qc (by simp only[simprocAttr,R0,qe,p138,Rs.ev,qb, *])
def F139_1_B(other:L1)(p by_:Int)(i:Int)(row:L1):Option (L1⊕L1):=
 (getI other i).bind fun y=>(getI row i).bind fun r=>(chk (p - by_)).bind fun q=>(chk (q*y)).bind fun m=>(chk (r+m)).bind fun s=>(remI s p).bind fun z=>(setI row i z).bind fun row'=> some (.inl row')
def F139_1_D(i:Int)(row:L1):Option L1:=some row
def F139(row other:L1)(p by_:Int):Option L1:=forR 0 (other.length:Int) (F139_1_B other p by_) F139_1_D row
theorem d139{row other row':L1}{p by_:Int}(hF:F139 row other p by_=some row')(E:List (nO))(c:Nat){key uid key2 uid2:Nat}(g1:E[key]? =some (uid,some (row.map enc)))(g2:E[key2]? =some (uid2,some (other.map enc)))(hne:key2≠key):
  res A 139 [V.sl key uid 0 row.length 1,V.sl key2 uid2 0 other.length 1,iI p,iI by_] ⟨E,c⟩=some (V.undef,⟨E.set key (uid,some (List.map enc row')),c⟩)∧row'.length=row.length:=by
 have hk:key < E.length:=gA g1
 suffices∃h',res A 139 [V.sl key uid 0 row.length 1,V.sl key2 uid2 0 other.length 1,iI p,iI by_] ⟨E,c⟩=some (V.undef,h')∧h'=⟨E.set key (uid,some (List.map enc row')),c⟩∧row'.length=row.length by
  obtain⟨h',q1,rfl,q2⟩:=this;exact⟨q1,q2⟩
 refine res_ex (f:=p139) rfl rfl rfl fun e hl he=>?_;have aA:=he 0 _ rfl;have aB:=he 1 _ rfl;have aN:=he 2 _ rfl;have bR:=he 3 _ rfl;have hl_0:e.length=33:=hl;clear he hl;show W A b139 e ⟨E,c⟩ _;unfold F139 at hF;simp only[simprocAttr,R1,b139,hl_0,aA,aB,aN,bR];show W A (.block 0 (.loop true b139_1)) _ _ _;rw[qj];refine qz hF _ rfl (fun i s e h=> s.length=row.length∧h=⟨E.set key (uid,some (s.map enc)),c⟩∧e.length=33∧e.at 0=V.sl key uid 0 row.length 1∧e.at 2=iI p∧e.at 3=iI by_∧e.at 10=V.sl key2 uid2 0 other.length 1∧e.at 11=iI (other.length:Int)∧e.at 12=iI i) ?_ ?_ ?_
 ·refine⟨rfl,?_,?_⟩
  ·rw[set_self g1]
  ·simp only[simprocAttr,R1,hl_0,aA,aB,aN,bR]
 ·clear hl_0 aA aB aN bR
  rintro i s e h ⟨hs,rfl,h_1⟩ hlt hw s' ho;unfold F139_1_B at ho;obtain⟨y,gy,ho⟩:=bS ho;obtain⟨ya,yb⟩:=qg gy;have yc:=qY gy;obtain⟨r,gr,ho⟩:=bS ho;obtain⟨ra,rb⟩:=qg gr;have rc:=qY gr;obtain⟨q,gq,ho⟩:=bS ho;have wq:=qu gq;obtain⟨m,gm,ho⟩:=bS ho;have wm:=qu gm;obtain⟨t,gt,ho⟩:=bS ho;have wt:=qu gt;obtain⟨z,gz,ho⟩:=bS ho;obtain⟨eu,wz⟩:=rem_w gz;obtain⟨kT,gs,ho⟩:=bS ho;obtain⟨s1,s2,s3,s4,s5⟩:=jy gs;cases ho;have oy:ze none (List.drop (Int.toNat i) (other.map enc))=some (iI y):=qw (by rw[gG,yb]; rfl);have orr:ze none (List.drop (Int.toNat i) (s.map enc))=some (iI r):=qw (by rw[gG,rb]; rfl);have n1:∀x,(E.set key x)[key]? =some x:=fun x=> qr hk;have n2:∀x,(E.set key x)[key2]? =some (uid2,some (other.map enc)):=fun x=>(qt hne).trans g2;have g9:List.take (Int.toNat i) (s.map enc)++[iI z]++List.drop (Int.toNat i+1) (s.map enc)=List.map enc kT:=s5;have rc':i < (row.length:Int):=by omega
  simp only[simprocAttr,R1,b139_1,h_1,eq_true hlt,hw,ya,eq_true yc,oy,ra,eq_true rc',orr,n1,n2,wq,wm,wt,eu,wz,s3,g9,List.set_set];refine ai rfl ⟨by omega,rfl,?_⟩;simp only[simprocAttr,R1,h_1,hw]
 ·clear hl_0 aA aB aN bR
  rintro i s e h ⟨hs,rfl,h_1⟩ hge t1 ho;unfold F139_1_D at ho;cases ho;simp only[simprocAttr,R1,b139_1,h_1,eq_false hge];intro ht; subst ht;refine ai (fun _=> trivial) ⟨?_,rfl,hs⟩;simp only[simprocAttr,R1,qe,p139,mapO];rfl
theorem i139{row other row':L1}{p by_:Int}(hF:F139 row other p by_=some row')(E:List (nO))(c:Nat){key uid:Nat}(g1:E[key]? =some (uid,some (row.map enc))):
  res A 139 [V.sl key uid 0 row.length 1,iL other,iI p,iI by_] ⟨E,c⟩=some (V.undef,⟨E.set key (uid,some (List.map enc row')),c⟩)∧row'.length=row.length:=by
 have hk:key < E.length:=gA g1
 suffices∃h',res A 139 [V.sl key uid 0 row.length 1,iL other,iI p,iI by_] ⟨E,c⟩=some (V.undef,h')∧h'=⟨E.set key (uid,some (List.map enc row')),c⟩∧row'.length=row.length by
  obtain⟨h',q1,rfl,q2⟩:=this;exact⟨q1,q2⟩
 refine res_ex (f:=p139) rfl rfl rfl fun e hl he=>?_;have aA:=he 0 _ rfl;have aB:=he 1 _ rfl;have aN:=he 2 _ rfl;have bR:=he 3 _ rfl;have hl_0:e.length=33:=hl;clear he hl;show W A b139 e ⟨E,c⟩ _;unfold F139 at hF;simp only[simprocAttr,R1,b139,hl_0,aA,aB,aN,bR];show W A (.block 0 (.loop true b139_1)) _ _ _;rw[qj];refine qz hF _ rfl (fun i s e h=> s.length=row.length∧h=⟨E.set key (uid,some (s.map enc)),c⟩∧e.length=33∧e.at 0=V.sl key uid 0 row.length 1∧e.at 2=iI p∧e.at 3=iI by_∧e.at 10=iL other∧e.at 11=iI (other.length:Int)∧e.at 12=iI i) ?_ ?_ ?_
 ·refine⟨rfl,?_,?_⟩
  ·rw[set_self g1]
  ·simp only[simprocAttr,R1,hl_0,aA,aB,aN,bR]
 ·clear hl_0 aA aB aN bR
  rintro i s e h ⟨hs,rfl,h_1⟩ hlt hw s' ho;unfold F139_1_B at ho;obtain⟨y,gy,ho⟩:=bS ho;obtain⟨ya,yb⟩:=qg gy;have yc:=qY gy;obtain⟨r,gr,ho⟩:=bS ho;obtain⟨ra,rb⟩:=qg gr;have rc:=qY gr;obtain⟨q,gq,ho⟩:=bS ho;have wq:=qu gq;obtain⟨m,gm,ho⟩:=bS ho;have wm:=qu gm;obtain⟨t,gt,ho⟩:=bS ho;have wt:=qu gt;obtain⟨z,gz,ho⟩:=bS ho;obtain⟨eu,wz⟩:=rem_w gz;obtain⟨kT,gs,ho⟩:=bS ho;obtain⟨s1,s2,s3,s4,s5⟩:=jy gs;cases ho;have orr:ze none (List.drop (Int.toNat i) (s.map enc))=some (iI r):=qw (by rw[gG,rb]; rfl);have n1:∀x,(E.set key x)[key]? =some x:=fun x=> qr hk;have g9:List.take (Int.toNat i) (s.map enc)++[iI z]++List.drop (Int.toNat i+1) (s.map enc)=List.map enc kT:=s5;have rc':i < (row.length:Int):=by omega
  simp only[simprocAttr,R1,b139_1,h_1,eq_true hlt,hw,ya,yb,ra,eq_true rc',orr,n1,wq,wm,wt,eu,wz,s3,g9,List.set_set];refine ai rfl ⟨by omega,rfl,?_⟩;simp only[simprocAttr,R1,h_1,hw]
 ·clear hl_0 aA aB aN bR
  rintro i s e h ⟨hs,rfl,h_1⟩ hge t1 ho;unfold F139_1_D at ho;cases ho;simp only[simprocAttr,R1,b139_1,h_1,eq_false hge];intro ht; subst ht;refine ai (fun _=> trivial) ⟨?_,rfl,hs⟩;simp only[simprocAttr,R1,qe,p139,mapO];rfl
def F133_1_B(rows:L2)(i:Int)(s:L2):Option (L2⊕L2):=(getI rows i).bind fun r=>(F96 r).bind fun d=>(app 24 s [d]).bind fun l=> some (.inl l)
def F133_1_D(i:Int)(s:L2):Option L2:=some s
def F133_3_B(p b:Int)(k:Int)(row:L1):Option (L1⊕L1):=(getI row k).bind fun x=>(chk (x*b)).bind fun m=>(remI m p).bind fun z=>(setI row k z).bind fun r=> some (.inl r)
def F133_3_D(k:Int)(row:L1):Option L1:=some row
def F133_4_B(p c done:Int)(i:Int)(l:L2):Option (L2⊕L2):=
 if i=done then some (.inl l)else(getI l i).bind fun r=>(getI l done).bind fun o=>(getI r c).bind fun x=>(F139 r o p x).bind fun r'=>(setI l i r').bind fun l'=> some (.inl l')
def F133_4_D(i:Int)(l:L2):Option L2:=some l
def F133_2_B(p:Int)(c:Int)(s:L2×Int):Option ((L2×Int)⊕(L2×Int)):=
 if 0≤s.2∧s.2≤s.1.length then
  (F128 (s.1.drop s.2.toNat) (fun r=> F137 r c)).bind fun at_=>
  if at_ < 0 then some (.inl s)else
  (chk (s.2+at_)).bind fun j=>(getI s.1 j).bind fun a=>(getI s.1 s.2).bind fun b=>(setI s.1 s.2 a).bind fun l1=>(setI l1 j b).bind fun l2=>
  (getI l2 s.2).bind fun row=>(getI row c).bind fun x=>(F138 p x).bind fun by_=>
  (forR 0 (row.length:Int) (F133_3_B p by_) F133_3_D row).bind fun row'=>(setI l2 s.2 row').bind fun l3=>
  (forR 0 (l3.length:Int) (F133_4_B p c s.2) F133_4_D l3).bind fun l4=>(chk (s.2+1)).bind fun d=> if d=(l4.length:Int)then some (.inr (l4,d))else some (.inl (l4,d))
 else none
def F133_2_D(c:Int)(s:L2×Int):Option (L2×Int):=some s
def F133(p:Int)(rows:L2):Option L2:=
 (forR 0 (rows.length:Int) (F133_1_B rows) F133_1_D []).bind fun l=> if(l.length:Int)=0 then some l else(getI l 0).bind fun r0=>
 (forR 0 (r0.length:Int) (F133_2_B p) F133_2_D (l,0)).bind fun t=> if 0≤t.2∧t.2≤t.1.length then some (t.1.take t.2.toNat)else none
set_option maxHeartbeats 8000000 in
theorem d133(p:Int)(rows:L2){r:L2}(hF:F133 p rows=some r):∃v h',res A 133 [iI p,iL rows] Heap.empty=some (v,h')∧
  ∃u vs l,v=V.sl 0 u 0 r.length 1∧h'.ents[0]? =some (u,some vs)∧zP h'.ents vs l (fun k=> 1≤k)∧r=l.take r.length:=by
 refine res_dp (f:=p133) rfl rfl rfl fun e hl he=>?_;have aA:=he 0 _ rfl;have aB:=he 1 _ rfl;have hl_0:e.length=134:=hl;clear he hl;show W A b133 e ⟨[],0⟩ _;unfold F133 at hF;obtain⟨l0,gl0,hF⟩:=bS hF;simp only[simprocAttr, -Int.reduceNatCast',R1,b133,hl_0,aA,aB];show W A (.block 0 (.loop true b133_1)) _ _ _;rw[qj];refine qz gl0 _ rfl (fun i s e h=>∃u vs,h.ents[0]? =some (u,some vs)∧zP h.ents vs s (fun k=> 1≤k)∧e.length=134∧e.at 0=iI p∧e.at 5=V.sl 0 u 0 s.length 1∧e.at 15=iL rows∧e.at 16=iI (rows.length:Int)∧e.at 17=iI i) ?_ ?_ ?_
 ·refine⟨0,[],rfl,.nil,?_⟩
  simp only[simprocAttr, -Int.reduceNatCast',R1,hl_0,aA,aB]
 ·clear hl_0 aA aB
  rintro i s e ⟨E,c⟩ ⟨u,vs,g1,g2,hl_1,aF,aH,fS,fR,fQ⟩ hlt hw s' ho;unfold F133_1_B at ho;simp only at g1 g2;obtain⟨x,gx,ho⟩:=bS ho;obtain⟨xa,xb⟩:=qg gx;obtain⟨d,gd,ho⟩:=bS ho;have wd:=t96 x gd;obtain⟨l,gl,ho⟩:=bS ho;obtain⟨q1,q2,rfl⟩:=app_w gl;have hE:=wA ho; subst hE;have hE0:0 < E.length:=gA g1;have w9:∀x y c',za 1 24 (.sl 0 u 0 s.length 1) 1 [V.sl E.length c 0 d.length 1] ⟨E++[x]++[y],c'⟩=_:=fun x y c'=> zn (E:=E++[x]++[y]) (vs:=vs) (by rw[vE,gC hE0]; exact g1) g2.len (by simpa using q1) (by simpa using q2);simp only[simprocAttr, -Int.reduceNatCast',R1,b133_1,hl_1,aF,aH,fS,fR,fQ,eq_true hlt,hw,xa,xb,wd,qN,qX,le1,qI,ge2a,ge2b,w9];refine ai rfl ⟨_,_,qr (by simp),?_,?_⟩
  ·refine(zP.snoc (k:=E.length) (u:=c) (r:=d) (E:=((E++[(c,some (d.map enc))]++[(c+1,some [V.sl E.length c 0 d.length 1])]).set 0 (c+1+1,some (vs++[V.sl E.length c 0 d.length 1])))) (g2.frame fun k hk hb=>?_) ?_ (by omega) fun i k' u' n hv e=>?_)
   ·rw[qt (by omega),vE,gC hk]
   ·rw[qt (by omega)]; exact ge2a ..
   ·subst e
    obtain⟨r,hr⟩:∃r,s[i]? =some r:=⟨s[i]'(by have:=gA hv; have:=g2.len; omega),by simp⟩;obtain⟨k2,u2,e2,g,_⟩:=g2.row i _ r hv hr;cases e2;have:=gA g;omega
  ·simp only[simprocAttr, -Int.reduceNatCast',R1,hl_1,aF,aH,fS,fR,fQ,hw,wR]
 ·clear hl_0 aA aB
  rintro i s e ⟨E,c⟩ ⟨u,vs,g1,g2,hl_1,aF,aH,fS,fR,fQ⟩ hge t1 ho;unfold F133_1_D at ho;have hE:=wA ho; subst hE;simp only at g1 g2;simp only[simprocAttr, -Int.reduceNatCast',R1,b133_1,hl_1,aF,aH,fS,fR,fQ,eq_false hge];intro ht; subst ht;by_cases hz:(s.length:Int)=0
  ·rw[if_pos hz]at hF ⊢
   have hE:=wA hF; subst hE;refine ai (fun _=> trivial) ⟨_,?_,u,vs,s,rfl,g1,g2,by rw[vK]⟩;simp only[simprocAttr, -Int.reduceNatCast',R1,qe,p133,Rs.ev,hl_1,aH]
  ·rw[if_neg hz]at hF ⊢
   obtain⟨r0,gr0,hF⟩:=bS hF;obtain⟨ra,rb⟩:=qg gr0;have rc:=qY gr0;obtain⟨t,gt,hF⟩:=bS hF;obtain⟨k0,u0,v1,v2,v3⟩:=g2.get rb;have o1:=qw v1;simp only[Int.toNat_zero,vN]at o1;simp only[simprocAttr, -Int.reduceNatCast',R1,hl_1,aF,aH,fS,fR,fQ,eq_true rc,g1,o1,Int.toNat_zero,yE];show W A (.block 2 (.loop true b133_2)) _ _ _;rw[qj];refine qz gt _ rfl (fun i s e h=>∃u vs,h.ents[0]? =some (u,some vs)∧zP h.ents vs s.1 (fun k=> 1≤k)∧e.length=134∧e.at 0=iI p∧e.at 5=V.sl 0 u 0 s.1.length 1∧e.at 8=iI s.2∧e.at 34=iI (r0.length:Int)∧e.at 35=iI i) ?_ ?_ ?_
   ·refine⟨u,vs,g1,g2,?_⟩
    simp only[simprocAttr, -Int.reduceNatCast',R1,hl_1,aF,aH,fS,fR,fQ]
   ·clear hl_1 aF aH fS fR fQ g1 g2 k0 u0 v1 v2 v3 o1
    rintro cc ⟨l,done⟩ e ⟨E,c⟩ ⟨u,vs,g1,g2,hl_1,aF,aH,aP,bP,bO⟩ hlt hw s' ho;unfold F133_2_B at ho;simp only at g1 g2 aH aP ho;have hE0:0 < E.length:=gA g1;split at ho
    case isFalse=> cases ho
    rename_i hdn;obtain⟨tO,rL⟩:=hdn;have hdn:done.toNat≤l.length:=by omega
    obtain⟨at_,gat,ho⟩:=bS ho;have wat:ans A 128 [V.isl (List.map enc (l.drop done.toNat)),V.fn 137 [] [V.iptr [iI cc]]]=some (iI at_):=s128 (l.drop done.toNat) (fun r=> F137 r cc)
     (Clo1.of (by intro h f; simp only[RZ,mapO]) (by intro h f; simp only[RZ,mapO]) (by intro f; simp only[RZ,RB]) (by intro f; simp only[RZ,RB]) (fun x _ hr=> s137 x cc hr)) gat
    have pz:∀x,(E++[x])[0]? =some (u,some vs):=fun x=>(gC hE0).trans g1;have cj:∀x,zP (E++[x]) vs l (fun k=> 1≤k∧k < E.length):=fun x=>(g2.mono (fun k hk h=> ai h hk)).frame fun k hk _=> gC hk;have wfz:∀x c,frz ⟨E++[x],c⟩ 16 (V.sl 0 u done.toNat (l.length - done.toNat) 1)=some (V.isl (List.map enc (l.drop done.toNat))):=fun x c=> by
     have:=(cj x).fz c (pz x) (off:=done.toNat) (n:=l.length - done.toNat) (by omega)
     rwa[wT (by simp)]at this
    have wsl:=slice_lo (key:=0) (uid:=u) (n:=l.length) tO (by omega);by_cases hat:at_ < 0
    ·rw[if_pos hat]at ho
     have hE:=wA ho; subst hE;simp only[simprocAttr, -Int.reduceNatCast',R1,b133_2,hl_1,aF,aH,aP,bP,bO,eq_true hlt,hw,vI,yR,wsl,wfz,wat,qI,set_last,eq_true hat];refine ai rfl ⟨u,vs,pz _,(cj _).mono fun k _ h=> h.1,?_⟩;simp only[simprocAttr, -Int.reduceNatCast',R1,hl_1,aF,aH,aP,bP,bO,hw]
    ·rw[if_neg hat]at ho
     obtain⟨j,gj,ho⟩:=bS ho;have wj:=qu gj;obtain⟨a,ga,ho⟩:=bS ho;obtain⟨aa,ab⟩:=qg ga;have ac:=qY ga;obtain⟨b,gb,ho⟩:=bS ho;obtain⟨ba,bb⟩:=qg gb;have bc:=qY gb;obtain⟨l1,oW,ho⟩:=bS ho;have e1:=setI_eq oW;obtain⟨l2,uT,ho⟩:=bS ho;have e2:=setI_eq uT;subst e1; subst e2;obtain⟨row,grow,ho⟩:=bS ho;obtain⟨rowa,rowb⟩:=qg grow;obtain⟨x,gx,ho⟩:=bS ho;obtain⟨xa,xb⟩:=qg gx;have xc:=qY gx;obtain⟨by_,gby,ho⟩:=bS ho;have wby:ans A 138 [iI p,iI x]=some (iI by_):=s138 p x gby;obtain⟨row',gr',ho⟩:=bS ho;obtain⟨l3,gl3,ho⟩:=bS ho;have e3:=setI_eq gl3;subst e3;obtain⟨l4,gl4,ho⟩:=bS ho;obtain⟨d1,ci,ho⟩:=bS ho;have wd1:=qu ci;obtain⟨ka,ua,va1,va2,va3⟩:=(cj (c,some [iI cc])).get ab;obtain⟨kb,ub,vb1,vb2,vb3⟩:=(cj (c,some [iI cc])).get bb;have hml:=g2.len;have hsw:=(cj (c,some [iI cc])).swap vb1 va1 bb ab;generalize me:(vs.set done.toNat (V.sl ka ua 0 a.length 1)).set j.toNat (V.sl kb ub 0 b.length 1)=vs2 at hsw;have hl2:((l.set done.toNat a).set j.toNat b).length=l.length:=by simp
     generalize hll2:(l.set done.toNat a).set j.toNat b=l2 at*;have oa:=qw va1;have ob:=qw vb1;have td1:List.take done.toNat vs++[V.sl ka ua 0 a.length 1]++List.drop (done.toNat+1) vs=vs.set done.toNat (V.sl ka ua 0 a.length 1):=tsd (by omega);have td2:List.take j.toNat (vs.set done.toNat (V.sl ka ua 0 a.length 1))++[V.sl kb ub 0 b.length 1]++List.drop (j.toNat+1) (vs.set done.toNat (V.sl ka ua 0 a.length 1))=vs2:=(tsd (by simp; omega)).trans me;have mh:done.toNat+1≤vs.length:=by omega
     have mf:j.toNat+1≤vs.length:=by omega
     have n1:∀y z,((E++[y]).set 0 z)[0]? =some z:=fun y z=> qr (by simp);have n2:∀y z,((E++[y]).set 0 z)[E.length]? =some y:=fun y z=>(qt (by omega)).trans (qI _ _);have ap:∀z,zP ((E++[(c,some [iI cc])]).set 0 z) vs2 l2 (fun k=> 1≤k∧k < E.length):=fun z=> hsw.frame fun k hk h=> qt (by omega);obtain⟨kr,ur,vr1,vr2,vr3⟩:=(ap (u,some vs2)).get rowb;have orr:=qw vr1;have ox:ze none (List.drop cc.toNat (row.map enc))=some (iI x):=qw (by rw[gG,xb]; rfl);have hvl:vs2.length=l.length:=by rw[hsw.len,hl2]
     simp only[simprocAttr, -Int.reduceNatCast',R1,b133_2,hl_1,aF,aH,aP,bP,bO,eq_true hlt,hw,vI,yR,wsl,wfz,wat,qI,set_last,eq_false hat,wj,aa,eq_true ac,ba,eq_true bc,pz,oa,ob,vW,eq_true mh,eq_true mf,td1,td2,List.set_set,n1,n2,orr,xa,eq_true xc,vr2,ox,wby];have hd1v:d1=done+1:=by
      unfold chk at ci; split at ci
      ·cases ci; rfl
      ·cases ci
     have kr0:1≤kr:=vr3.1;have krE:kr < E.length:=vr3.2;have m0:∀z,(((E++[(c,some [iI cc])]).set 0 (u,some vs2)).set kr z)[0]? =some (u,some vs2):=fun z=>(qt (by omega)).trans (n1 _ _);have mk:∀z,(((E++[(c,some [iI cc])]).set 0 (u,some vs2)).set kr z)[kr]? =some z:=fun z=> qr (by simp; omega);have mN:∀z,(((E++[(c,some [iI cc])]).set 0 (u,some vs2)).set kr z)[E.length]? =some (c,some [iI cc]):=fun z=>(qt (by omega)).trans (n2 _ _);have hdl:done < (l.length:Int):=by omega
     show W A (.block 4 (.loop true b133_3)) _ _ _;rw[qj];refine qz gr' _ rfl (fun k s e h=> s.length=row.length∧h=⟨((E++[(c,some [iI cc])]).set 0 (u,some vs2)).set kr (ur,some (s.map enc)),c+1⟩∧e.length=134∧e.at 0=iI p∧e.at 5=V.sl 0 u 0 l.length 1∧e.at 8=iI done∧e.at 9=V.ptr E.length c 0∧e.at 11=iI by_∧e.at 34=iI (r0.length:Int)∧e.at 35=iI cc∧e.at 76=iI (row.length:Int)∧e.at 77=iI k) ?_ ?_ ?_
     ·refine⟨rfl,by rw[set_self vr2],?_⟩
      simp only[simprocAttr, -Int.reduceNatCast',R1,hl_1,aF,aH,aP,bP,bO]
     ·clear hl_1 aF aH aP bP bO
      rintro k q e h ⟨hq,rfl,hl_1,aF,aH,aP,bF,aU,bP,bO,gZ,gY⟩ mY pR s3 eX;unfold F133_3_B at eX;obtain⟨x3,dO,eX⟩:=bS eX;obtain⟨ej,eg⟩:=qg dO;obtain⟨m3,pl,eX⟩:=bS eX;have fj:=qu pl;obtain⟨z3,ng,eX⟩:=bS eX;obtain⟨sA,ep⟩:=rem_w ng;obtain⟨q2,pj,eX⟩:=bS eX;obtain⟨s31,s32,lm,s34,ll⟩:=jy pj;have hE:=wA eX; subst hE;have o3:ze none (List.drop k.toNat (q.map enc))=some (iI x3):=qw (by rw[gG,eg]; rfl);have dk:k < (row.length:Int):=mY;have tI:List.take k.toNat (q.map enc)++[iI z3]++List.drop (k.toNat+1) (q.map enc)=List.map enc q2:=ll;simp only[simprocAttr, -Int.reduceNatCast',R1,b133_3,hl_1,aF,aH,aP,bF,aU,bP,bO,gZ,gY,pR,eq_true mY,tO,eq_true hdl,m0,mk,orr,ej,o3,fj,sA,ep,lm,tI,List.set_set];refine ai rfl ⟨by omega,rfl,?_⟩;simp only[simprocAttr, -Int.reduceNatCast',R1,hl_1,aF,aH,aP,bF,aU,bP,bO,gZ,gY,pR]
     ·clear hl_1 aF aH aP bP bO
      rintro k q e h ⟨hq,rfl,hl_1,aF,aH,aP,bF,aU,bP,bO,gZ,gY⟩ nS t3 eX;unfold F133_3_D at eX;have hE:=wA eX; subst hE;simp only[simprocAttr, -Int.reduceNatCast',R1,b133_3,hl_1,aF,aH,aP,bF,aU,bP,bO,gZ,gY,eq_false nS];intro ht; subst ht;have hmw:=zP.write (ap (u,some vs2)) rowb vr1 hq;have hl3:((l2.set done.toNat q).length:Int)=(l.length:Int):=by rw[vW,hl2]
      rw[hl3]at gl4;show W A (.block 6 (.loop true b133_4)) _ _ _;rw[qj];refine qz gl4 _ rfl (fun i s e h=> s.length=l.length∧h.ents[0]? =some (u,some vs2)∧zP h.ents vs2 s (fun k=> 1≤k∧k < E.length)∧h.ents[E.length]? =some (c,some [iI cc])∧e.length=134∧e.at 0=iI p∧e.at 5=V.sl 0 u 0 l.length 1∧e.at 8=iI done∧e.at 9=V.ptr E.length c 0∧e.at 34=iI (r0.length:Int)∧e.at 35=iI cc∧e.at 99=iI (l.length:Int)∧e.at 100=iI i) ?_ ?_ ?_
      ·refine⟨by omega,m0 _,hmw,mN _,?_⟩
       simp only[simprocAttr, -Int.reduceNatCast',R1,hl_1,aF,aH,aP,bF,aU,bP,bO,gZ,gY]
      ·clear hl_1 aF aH aP bF aU bP bO gZ gY
       rintro i q4 e ⟨E4,c4⟩ ⟨dj,f1,f2,f3,hl_1,aF,aH,aP,bF,bP,bO,fE,eD⟩ tM di s4 kL;unfold F133_4_B at kL;simp only at f1 f2 f3;by_cases hi:i=done
       ·rw[if_pos hi]at kL
        have hE:=wA kL; subst hE;simp only[simprocAttr, -Int.reduceNatCast',R1,b133_4,hl_1,aF,aH,aP,bF,bP,bO,fE,eD,di,eq_true tM,eq_true hi];refine ai rfl ⟨dj,f1,f2,f3,?_⟩;simp only[simprocAttr, -Int.reduceNatCast',R1,hl_1,aF,aH,aP,bF,bP,bO,fE,eD,di]
       ·rw[if_neg hi]at kL
        obtain⟨ri,gri,kL⟩:=bS kL;obtain⟨ria,rib⟩:=qg gri;obtain⟨oi,goi,kL⟩:=bS kL;obtain⟨oia,oib⟩:=qg goi;obtain⟨xi,gxi,kL⟩:=bS kL;obtain⟨xia,xib⟩:=qg gxi;have xic:=qY gxi;obtain⟨r',gr'',kL⟩:=bS kL;obtain⟨l',gl',kL⟩:=bS kL;have e4:=setI_eq gl';subst e4;have hE:=wA kL; subst hE;obtain⟨ki,ui,kp,vi2,vi3⟩:=f2.get rib;obtain⟨ko,uo,vo1,vo2,vo3⟩:=f2.get oib;have hko:ko≠ki:=fun q=> hi (by have:=f2.inj _ _ _ _ _ _ _ _ vo1 kp q; omega);have oi1:=qw kp;have oo1:=qw vo1;have ox1:ze none (List.drop cc.toNat (ri.map enc))=some (iI xi):=qw (by rw[gG,xib]; rfl);obtain⟨wc,wcl⟩:=d139 gr'' E4 c4 vi2 vo2 hko;have hi4:i < (l.length:Int):=tM;simp only[simprocAttr, -Int.reduceNatCast',R1,b133_4,hl_1,aF,aH,aP,bF,bP,bO,fE,eD,di,eq_true tM,eq_false hi,tO,eq_true hdl,ria,f1,f3,oi1,oo1,vi2,xia,eq_true xic,ox1,qG,wc];refine ai rfl ⟨by rw[vW]; exact dj,(qt (by omega)).trans f1,f2.write rib kp wcl,(qt (by omega)).trans f3,?_⟩;simp only[simprocAttr, -Int.reduceNatCast',R1,hl_1,aF,aH,aP,bF,bP,bO,fE,eD,di]
      ·clear hl_1 aF aH aP bF aU bP bO gZ gY
       rintro i q4 e ⟨E4,c4⟩ ⟨dj,f1,f2,f3,hl_1,aF,aH,aP,bF,bP,bO,fE,eD⟩ ar t4 kL;unfold F133_4_D at kL;have hE:=wA kL; subst hE;simp only at f1 f2 f3;have n6:Go.IntKind.wrap .i64 (done+1)=d1:=wd1;by_cases hb:d1=(q4.length:Int)
       ·have hb':d1=(l.length:Int):=by omega
        have wsh:=slice_hi (key:=0) (uid:=u) (n:=l.length) (d:=d1) (by omega) (by omega);simp only[simprocAttr, -Int.reduceNatCast',R1,b133_4,hl_1,aF,aH,aP,bF,bP,bO,fE,eD,eq_false ar,n6,eq_true hb',vI,yR,wsh];intro ht; subst ht;rw[if_pos hb]at ho;have hE:=wA ho; subst hE;intro ht; subst ht;simp only[simprocAttr, -Int.reduceNatCast',R1,hl_1,aF,aH,aP,bF,bP,bO,fE,eD,vI,yR,wsh];simp only at hF;rw[if_pos ⟨by omega,by omega⟩]at hF;have hE:=wA hF; subst hE;have hrl:(q4.take d1.toNat).length=d1.toNat:=by simp; omega
        refine ai (fun _=> trivial) ⟨_,?_,u,vs2,q4,rfl,f1,f2.mono fun k _ h=> h.1,by rw[hrl]⟩;simp only[simprocAttr, -Int.reduceNatCast',R1,qe,p133,Rs.ev,hl_1,hrl]
       ·have hb':¬d1=(l.length:Int):=by omega
        simp only[simprocAttr, -Int.reduceNatCast',R1,b133_4,hl_1,aF,aH,aP,bF,bP,bO,fE,eD,eq_false ar,n6,eq_false hb',hw];intro ht; subst ht;rw[if_neg hb]at ho;have hE:=wA ho; subst hE;refine ai rfl ⟨u,vs2,f1,f2.mono fun k _ h=> h.1,?_⟩;simp only[simprocAttr, -Int.reduceNatCast',R1,hl_1,aF,aH,aP,bF,bP,bO,fE,eD,dj]
   ·clear hl_1 aF aH fS fR fQ g1 g2 k0 u0 v1 v2 v3 o1
    rintro cc ⟨l,done⟩ e ⟨E,c⟩ ⟨u,vs,g1,g2,hl_1,aF,aH,aP,bP,bO⟩ hge t1 ho;unfold F133_2_D at ho;have hE:=wA ho; subst hE;simp only at g1 g2 aH aP;simp only[simprocAttr, -Int.reduceNatCast',R1,b133_2,hl_1,aF,aH,aP,bP,bO,eq_false hge,vI,yR];intro ht; subst ht;simp only at hF;split at hF
    case isFalse=> cases hF
    rename_i hdn;have wsh:=slice_hi (key:=0) (uid:=u) (n:=l.length) (d:=done) hdn.1 (by omega);have hE:=wA hF; subst hE;have hrl:(l.take done.toNat).length=done.toNat:=by simp; omega
    simp only[simprocAttr, -Int.reduceNatCast',R1,hl_1,wsh];refine ai (fun _=> trivial) ⟨_,?_,u,vs,l,rfl,g1,g2,by rw[hrl]⟩;simp only[simprocAttr, -Int.reduceNatCast',R1,qe,p133,Rs.ev,hl_1,hrl]
theorem s133(p:Int)(rows:L2){r:L2}(hF:F133 p rows=some r):ans A 133 [iI p,iL rows]=some (enc r):=by
 obtain⟨_,h',h1,u,vs,l,rfl,h2,h3,h4⟩:=d133 p rows hF;have hl:r.length≤l.length:=by have:=congrArg List.length h4; simp at this; omega
 have:=h3.fz h'.clk (key:=0) (uid:=u) (off:=0) (n:=r.length) h2 (by omega);rw[vN,←h4]at this;unfold ans;rw[h1];exact this
theorem t133(p:Int)(rows:L2){r:L2}(hF:F133 p rows=some r):tans A 133 [1] [iI p,iL rows]=some (enc r):=by
 obtain⟨_,h',h1,u,vs,l,rfl,h2,h3,h4⟩:=d133 p rows hF;have hl:r.length≤l.length:=by have:=congrArg List.length h4; simp at this; omega
 obtain⟨h2',q⟩:=h3.tk h'.clk (key:=0) (uid:=u) (n:=r.length) h2 (by decide) hl;rw[←h4]at q;unfold tans;rw[h1];show(match take 16 [1] (V.sl 0 u 0 r.length 1) ⟨h'.ents,h'.clk⟩with|some (t,_)=> some t|none=> none)=_;rw[q];rfl
def F125_1_B(a0:Int)(a1:L2)(x2:L1)(fZ:Int)(aC:L2):Option ((L2)⊕(L2)):=
 (getI a1 fZ).bind fun x8=>
(F96 x8).bind fun dI=>
(appZ 8 dI (a1.length:Int) 0).bind fun nP=>
(chk ((x2.length:Int)+fZ)).bind fun cO=>
(getI nP cO).bind fun cQ=>
(setI nP cO 1).bind fun mG=>
(app 24 aC [mG]).bind fun z8=>
some (.inl z8)
def F125_1_D(a0:Int)(a1:L2)(x2:L1)(fZ:Int)(aC:L2):Option (L2):=
 some aC
def F125_2_B(a0:Int)(x2:L1)(dZ:L2)(iO:Int)(bX:L2):Option ((L2)⊕(L2)):=
 (getI dZ iO).bind fun iU=>
(slI iU 0 (x2.length:Int)).bind fun df=>
(F92 df).bind fun iT=>
if iT=true then
 (slI iU (x2.length:Int) (iU.length:Int)).bind fun tK=>
 (app 24 bX [tK]).bind fun l37=>
 some (.inl l37)
else
 some (.inl bX)
def F125_2_D(a0:Int)(x2:L1)(dZ:L2)(iO:Int)(bX:L2):Option (L2):=
 some bX
def F125(a0:Int)(a1:L2):Option L2:=
 if(a1.length:Int)=0 then
  some ([]:L2)
 else
  (getI a1 0).bind fun x2=>
  (forR 0 (a1.length:Int) (F125_1_B a0 a1 x2) (F125_1_D a0 a1 x2) ([]:L2)).bind fun aD=>
  (F133 a0 aD).bind fun dZ=>
  (forR 0 (dZ.length:Int) (F125_2_B a0 x2 dZ) (F125_2_D a0 x2 dZ) ([]:L2)).bind fun cE=>
  (F133 a0 cE).bind fun lF=>
  some lF
def I125_1(a0:Int)(a1:L2)(x2:L1)(fZ:Int)(aC:L2)(e:Env)(h:Heap):Prop:=
 ∃u5 k6:Nat,h=⟨[(u5,some (aC.map enc))],k6⟩∧e.length=67∧e.at 0=iI a0∧e.at 5=iI (a1.length:Int)∧e.at 6=iI (x2.length:Int)∧e.at 7=V.sl 0 u5 0 aC.length 1∧e.at 23=iL a1∧e.at 24=iI (a1.length:Int)∧e.at 25=iI fZ
def P125_1(a0:Int)(a1:L2)(x2:L1)(aD:L2)(x:Ex)(e:Env)(h:Heap):Prop:=
 x= .normal∧∃u5 k6:Nat,h=⟨[(u5,some (aD.map enc))],k6⟩∧e.length=67∧e.at 0=iI a0∧e.at 6=iI (x2.length:Int)∧e.at 7=V.sl 0 u5 0 aD.length 1
theorem l125_1(a0:Int)(a1:L2)(x2:L1){lo:Int}{s:L2}{t:L2}(hF:forR lo (a1.length:Int) (F125_1_B a0 a1 x2) (F125_1_D a0 a1 x2) s=some t){e:Env}{h:Heap}(hI:I125_1 a0 a1 x2 lo s e h):W A c125_1 e h (P125_1 a0 a1 x2 t):=by
 show W A (.block 0 (.loop false b125_1)) e h _;rw[qj];refine qz hF 1 (by obtain⟨_,_,rfl,_⟩:=hI; rfl) (I125_1 a0 a1 x2) hI ?_ ?_
 ·rintro fZ aC e h ⟨u5,k6,rfl,h_4⟩ hlt hw o ho
  unfold F125_1_B at ho;obtain⟨x8,kC,ho⟩:=bS ho;obtain⟨d9,d7⟩:=qg kC;obtain⟨dI,dY,ho⟩:=bS ho;have pP:tans A 96 [1] [iL x8]=some (iL dI):=t96 x8 dY;have t6:=qX (α:=Int) dI;obtain⟨nP,px,ho⟩:=bS ho;obtain⟨fY,fX,s9,s8,kn,sT⟩:=appZ_w px;replace sT:List.map enc (List.replicate (Int.toNat (a1.length:Int)) (0:Int))=(List.replicate (Int.toNat (a1.length:Int)) [iI 0]).flatten:=sT;have pB:=fun a b c d e=> qF (α:=Int) (n:=dI.length) (m:=(Int.toNat (a1.length:Int))) (ds:=(List.replicate (Int.toNat (a1.length:Int)) [iI 0]).flatten) s8 (by first|rfl|simp) kn sT a b c d e;have w12l:=qZ s8;obtain⟨cO,eF,ho⟩:=bS ho;have sE:=qu eF;obtain⟨cQ,dP,ho⟩:=bS ho;obtain⟨kP,iX⟩:=qg dP;have pO:=qY dP;have nM:List.drop (Int.toNat cO) (nP.map enc)=(iI cQ)::List.drop ((Int.toNat cO)+1) (nP.map enc):=jf iX;obtain⟨mG,mA,ho⟩:=bS ho;obtain⟨lM,kO,sO,kN,pN⟩:=jy mA;replace pN:List.take (Int.toNat cO) (nP.map enc)++[iI 1]++List.drop (Int.toNat cO+1) (nP.map enc)=List.map enc mG:=pN;obtain⟨z8,oT,ho⟩:=bS ho;have e9:=fun a b c d e=> qF (α:=L1) (n:=aC.length) (m:=1) (ds:=[iL mG]) oT (by first|rfl|simp only[kN]) (by first|rfl|simp only[kN]) rfl a b c d e;have kf:=qZ oT;cases ho;simp only[simprocAttr, -Int.reduceNatCast',R0,b125_1,h_4,eq_true hlt,hw,d9,d7,pP,t6,fY,fX,s9,pB,sE,kP,iX,pO,nM,lM,kO,sO,pN,qM (α:=Int) mG,qK (α:=Int) (l:=mG) (n:=nP.length) (by first|rfl|simp only[kN]),qH (α:=Int) (l:=mG) (n:=nP.length) (by first|rfl|simp only[kN]),e9];refine ai rfl (ei _ (ei _ (ai rfl ?_)));simp only[simprocAttr, -Int.reduceNatCast',R0,h_4,eq_true hlt,hw,d9,d7,pP,t6,fY,fX,s9,pB,sE,kP,iX,pO,nM,lM,kO,sO,pN,qM (α:=Int) mG,qK (α:=Int) (l:=mG) (n:=nP.length) (by first|rfl|simp only[kN]),qH (α:=Int) (l:=mG) (n:=nP.length) (by first|rfl|simp only[kN]),e9,kN]
 ·rintro fZ aC e h ⟨u5,k6,rfl,h_4⟩ hge t1 ho
  unfold F125_1_D at ho;cases ho;simp only[simprocAttr, -Int.reduceNatCast',R0,b125_1,h_4,eq_false hge];intro ht; subst ht;refine ai rfl (ei _ (ei _ (ai rfl ?_)));simp only[simprocAttr, -Int.reduceNatCast',R0,h_4,eq_false hge]
def I125_2(a0:Int)(x2:L1)(dZ:L2)(iO:Int)(bX:L2)(e:Env)(h:Heap):Prop:=
 ∃rG i8:Nat,h=⟨[(0,none),(rG,some (bX.map enc))],i8⟩∧e.length=67∧e.at 0=iI a0∧e.at 6=iI (x2.length:Int)∧e.at 11=V.sl 1 rG 0 bX.length 1∧e.at 47=iL dZ∧e.at 48=iI (dZ.length:Int)∧e.at 49=iI iO
def P125_2(a0:Int)(x2:L1)(dZ:L2)(cE:L2)(x:Ex)(e:Env)(h:Heap):Prop:=
 x= .normal∧∃rG i8:Nat,h=⟨[(0,none),(rG,some (cE.map enc))],i8⟩∧e.length=67∧e.at 0=iI a0∧e.at 11=V.sl 1 rG 0 cE.length 1
theorem l125_2(a0:Int)(x2:L1)(dZ:L2){lo:Int}{s:L2}{t:L2}(hF:forR lo (dZ.length:Int) (F125_2_B a0 x2 dZ) (F125_2_D a0 x2 dZ) s=some t){e:Env}{h:Heap}(hI:I125_2 a0 x2 dZ lo s e h):W A c125_2 e h (P125_2 a0 x2 dZ t):=by
 show W A (.block 2 (.loop false b125_2)) e h _;rw[qj];refine qz hF 2 (by obtain⟨_,_,rfl,_⟩:=hI; rfl) (I125_2 a0 x2 dZ) hI ?_ ?_
 ·rintro iO bX e h ⟨rG,i8,rfl,h_24⟩ hlt hw o ho
  unfold F125_2_B at ho;obtain⟨iU,lX,ho⟩:=bS ho;obtain⟨iq,ip⟩:=qg lX;obtain⟨df,pu,ho⟩:=bS ho;have o8:sliceV 1 (iL iU) none (some (iI (x2.length:Int)))=some (iL df):=sliceV_w (α:=Int) One.one pu (.inl ⟨rfl,rfl⟩) (.inr rfl);obtain⟨iT,lW,ho⟩:=bS ho;have w33:=s92 df lW;cases iT with
  |true=>
   rw[if_pos rfl]at ho;obtain⟨tK,pY,ho⟩:=bS ho;have w35:sliceV 1 (iL iU) (some (iI (x2.length:Int))) none=some (iL tK):=sliceV_w (α:=Int) One.one pY (.inr rfl) (.inl ⟨rfl,rfl⟩);obtain⟨l37,cf,ho⟩:=bS ho;have w36:=fun a b c d e=> qF (α:=L1) (n:=bX.length) (m:=1) (ds:=[iL tK]) cf (by first|rfl|simp) (by first|rfl|simp) rfl a b c d e;have w36l:=qZ cf;cases ho;simp only[simprocAttr,R0,b125_2, *];refine ai rfl (ei _ (ei _ (ai rfl ?_)));simp only[simprocAttr,R0, *]
  |false=>
   rw[if_neg wD]at ho;cases ho;simp only[simprocAttr,R0,b125_2, *];refine ai rfl (ei _ (ei _ (ai rfl ?_)));simp only[simprocAttr,R0, *]
 ·rintro iO bX e h ⟨rG,i8,rfl,h_24⟩ hge t1 ho
  unfold F125_2_D at ho;cases ho;simp only[simprocAttr,R0,b125_2, *];intro ht; subst ht;refine ai rfl (ei _ (ei _ (ai rfl ?_)));simp only[simprocAttr,R0, *]
theorem s125(a0:Int)(a1:L2){r:L2}(hF:F125 a0 a1=some r):ans A 125 [iI a0,iL a1]=some (enc r):=by
 refine qv (f:=p125) rfl rfl rfl fun e hl he=>?_;have aA:=he 0 _ rfl;have aB:=he 1 _ rfl;have hl_0:e.length=67:=hl;clear he hl;have h_0:=ai hl_0 (ai aA aB);show W A b125 e ⟨[],0⟩ _;unfold F125 at hF;by_cases c1:(a1.length:Int)=0
 ·rw[if_pos c1]at hF
  cases hF;simp only[simprocAttr,R0,b125, *];exact qc (by simp only[simprocAttr,R0,qe,p125,Rs.ev,qb, *])
 ·rw[if_neg c1]at hF
  obtain⟨x2,fK,hF⟩:=bS hF;obtain⟨w3a,w3b⟩:=qg fK;replace w3b:a1[0]? =some x2:=w3b;obtain⟨aD,ph,hF⟩:=bS hF;simp only[simprocAttr,R0,b125, *];refine W.mono (l125_1 a0 a1 x2 ph (ei _ (ei _ (ai rfl ?_)))) ?_
  ·simp only[simprocAttr,R0, *]
  rintro _ e _ ⟨rfl,u5,k6,rfl,h_7⟩;obtain⟨dZ,kG,hF⟩:=bS hF;have w23:=s133 a0 aD kG;obtain⟨cE,pe,hF⟩:=bS hF;simp only[simprocAttr,R0,qM (α:=L1) aD, *];refine W.mono (l125_2 a0 x2 dZ pe (ei _ (ei _ (ai rfl ?_)))) ?_
  ·simp only[simprocAttr,R0,qM (α:=L1) aD, *]
  rintro _ e _ ⟨rfl,rG,i8,rfl,h_27⟩;obtain⟨lF,kD,hF⟩:=bS hF;have w40:=s133 a0 cE kD;cases hF;simp only[simprocAttr,R0,qM (α:=L1) cE, *];exact qc (by simp only[simprocAttr,R0,qe,p125,Rs.ev,qb,qM (α:=L1) cE, *])
def F100(a0:qa)(a1:Int):Option L2:=
 if a1≤0 then
  (F102 a0 a1).bind fun x2=>
  (F124 x2).bind fun x4=>
  some x4
 else
  (F86 a0).bind fun x6=>
  if x6 < a1 then
   (F102 a0 a1).bind fun x9=>
   (F124 x9).bind fun bA=>
   some bA
  else
   (chk (a1 - 1)).bind fun bD=>
   (getI a0.M bD).bind fun cO=>
   (F125 a0.P cO).bind fun cC=>
   some cC
theorem s100(a0:qa)(a1:Int){r:L2}(hF:F100 a0 a1=some r):ans A 100 [(eC a0),iI a1]=some (enc r):=by
 refine qv (f:=p100) rfl rfl rfl fun e hl he=>?_;have aA:=he 0 _ rfl;have aB:=he 1 _ rfl;have hl_0:e.length=26:=hl;clear he hl;have h_0:=ai hl_0 (ai aA aB);show W A b100 e ⟨[],0⟩ _;unfold F100 at hF;by_cases c1:a1≤0
 ·rw[if_pos c1]at hF
  obtain⟨x2,fK,hF⟩:=bS hF;have w3:=s102 a0 a1 fK;obtain⟨x4,dK,hF⟩:=bS hF;have w5:=s124 x2 dK;cases hF;simp only[simprocAttr,R0,b100, *];exact qc (by simp only[simprocAttr,R0,qe,p100,Rs.ev,qb, *])
 ·rw[if_neg c1]at hF
  obtain⟨x6,fH,hF⟩:=bS hF;have w7:=s86 a0 fH;by_cases c8:x6 < a1
  ·rw[if_pos c8]at hF
   obtain⟨x9,eJ,hF⟩:=bS hF;have pC:=s102 a0 a1 eJ;obtain⟨bA,cM,hF⟩:=bS hF;have pB:=s124 x9 cM;cases hF;simp only[simprocAttr,R0,b100, *];exact qc (by simp only[simprocAttr,R0,qe,p100,Rs.ev,qb, *])
  ·rw[if_neg c8]at hF
   obtain⟨bD,cD,hF⟩:=bS hF;have fh:=qu cD;obtain⟨cO,eF,hF⟩:=bS hF;obtain⟨kQ,iH⟩:=qg eF;obtain⟨cC,dM,hF⟩:=bS hF;have rE:=s125 a0.P cO dM;cases hF;simp only[simprocAttr,R0,b100, *];exact qc (by simp only[simprocAttr,R0,qe,p100,Rs.ev,qb, *])
def F186(a0:qa)(a1:Int):Option L2:=
 if a1 < 0 then
  some ([]:L2)
 else
  (F86 a0).bind fun x2=>
  if x2≤a1 then
   some ([]:L2)
  else
   (getI a0.M a1).bind fun x5=>
   (F133 a0.P x5).bind fun x7=>
   some x7
theorem s186(a0:qa)(a1:Int){r:L2}(hF:F186 a0 a1=some r):ans A 186 [(eC a0),iI a1]=some (enc r):=by
 refine qv (f:=p186) rfl rfl rfl fun e hl he=>?_;have aA:=he 0 _ rfl;have aB:=he 1 _ rfl;have hl_0:e.length=21:=hl;clear he hl;show W A b186 e ⟨[],0⟩ _;unfold F186 at hF;by_cases c1:a1 < 0
 ·rw[if_pos c1]at hF
  have hE:=wA hF; subst hE;simp only[simprocAttr, -Int.reduceNatCast',R0,b186, *];exact qc (by simp only[simprocAttr, -Int.reduceNatCast',R0,qe,p186,Rs.ev,qb, *])
 ·rw[if_neg c1]at hF
  obtain⟨x2,fK,hF⟩:=bS hF;have w3:=s86 a0 fK;by_cases c4:x2≤a1
  ·rw[if_pos c4]at hF
   have hE:=wA hF; subst hE;simp only[simprocAttr, -Int.reduceNatCast',R0,b186, *];exact qc (by simp only[simprocAttr, -Int.reduceNatCast',R0,qe,p186,Rs.ev,qb, *])
  ·rw[if_neg c4]at hF
   obtain⟨x5,dC,hF⟩:=bS hF;obtain⟨iE,iD⟩:=qg dC;obtain⟨x7,dF,hF⟩:=bS hF;have w8:tans A 133 [1] [iI a0.P,iL x5]=some (iL x7):=t133 a0.P x5 dF;have fq:=qX (α:=L1) x7;have hE:=wA hF; subst hE;simp only[simprocAttr, -Int.reduceNatCast',R0,b186, *];exact qc (by simp only[simprocAttr, -Int.reduceNatCast',R0,qe,p186,Rs.ev,qb,frzs (α:=L1) x7,qM (α:=L1) x7, *])
theorem t186(a0:qa)(a1:Int){r:L2}(hF:F186 a0 a1=some r):tans A 186 [1] [(eC a0),iI a1]=some (enc r):=by
 refine tans_of (f:=p186) rfl rfl rfl fun e hl he=>?_;have aA:=he 0 _ rfl;have aB:=he 1 _ rfl;have hl_0:e.length=21:=hl;clear he hl;show W A b186 e ⟨[],0⟩ _;unfold F186 at hF;by_cases c1:a1 < 0
 ·rw[if_pos c1]at hF
  have hE:=wA hF; subst hE;simp only[simprocAttr, -Int.reduceNatCast',R0,b186, *];exact jF (by simp only[simprocAttr, -Int.reduceNatCast',R0,qe,p186,Rs.ev,qb, *])
 ·rw[if_neg c1]at hF
  obtain⟨x2,fK,hF⟩:=bS hF;have w3:=s86 a0 fK;by_cases c4:x2≤a1
  ·rw[if_pos c4]at hF
   have hE:=wA hF; subst hE;simp only[simprocAttr, -Int.reduceNatCast',R0,b186, *];exact jF (by simp only[simprocAttr, -Int.reduceNatCast',R0,qe,p186,Rs.ev,qb, *])
  ·rw[if_neg c4]at hF
   obtain⟨x5,dC,hF⟩:=bS hF;obtain⟨iE,iD⟩:=qg dC;obtain⟨x7,dF,hF⟩:=bS hF;have w8:tans A 133 [1] [iI a0.P,iL x5]=some (iL x7):=t133 a0.P x5 dF;have fq:=qX (α:=L1) x7;have hE:=wA hF; subst hE;simp only[simprocAttr, -Int.reduceNatCast',R0,b186, *];exact jF (by simp only[simprocAttr, -Int.reduceNatCast',R0,qe,p186,Rs.ev,qb,frzs (α:=L1) x7,qM (α:=L1) x7, *])
def F123(a0:Int):Option Bool:=
 some (!(decide (a0=0)))
theorem s123(a0:Int){r:Bool}(hF:F123 a0=some r):ans A 123 [iI a0]=some (enc r):=by
 refine qv (f:=p123) rfl rfl rfl fun e hl he=>?_;have aA:=he 0 _ rfl;have hl_0:e.length=5:=hl;clear he hl;show W A b123 e ⟨[],0⟩ _;unfold F123 at hF;cases hF;simp only[simprocAttr,R0,b123, *];exact qc (by simp only[simprocAttr,R0,qe,p123,Rs.ev,qb, *])
def F101_1_B(a0:L2)(aL:Int)(aC:L1):Option ((L1)⊕(L1)):=
 (getI a0 aL).bind fun x5=>
(F115 x5 (fun x=> F123 x)).bind fun x7=>
(app 8 aC [x7]).bind fun tL=>
some (.inl tL)
def F101_1_D(a0:L2)(aL:Int)(aC:L1):Option (L1):=
 some aC
def F101(a0:L2):Option L1:=
 (forR 0 (a0.length:Int) (F101_1_B a0) (F101_1_D a0) ([]:L1)).bind fun aD=>
 some aD
def I101_1(a0:L2)(aL:Int)(aC:L1)(e:Env)(h:Heap):Prop:=
 ∃u2 k3:Nat,h=⟨[(u2,some (aC.map enc))],k3⟩∧e.length=20∧e.at 3=V.sl 0 u2 0 aC.length 1∧e.at 7=iL a0∧e.at 8=iI (a0.length:Int)∧e.at 9=iI aL
def P101_1(a0:L2)(aD:L1)(x:Ex)(e:Env)(h:Heap):Prop:=
 x= .normal∧∃u2 k3:Nat,h=⟨[(u2,some (aD.map enc))],k3⟩∧e.length=20∧e.at 3=V.sl 0 u2 0 aD.length 1
theorem l101_1(a0:L2){lo:Int}{s:L1}{t:L1}(hF:forR lo (a0.length:Int) (F101_1_B a0) (F101_1_D a0) s=some t){e:Env}{h:Heap}(hI:I101_1 a0 lo s e h):W A c101_1 e h (P101_1 a0 t):=by
 show W A (.block 0 (.loop false b101_1)) e h _;rw[qj];refine qz hF 1 (by obtain⟨_,_,rfl,_⟩:=hI; rfl) (I101_1 a0) hI ?_ ?_
 ·rintro aL aC e h ⟨u2,k3,rfl,h_1⟩ hlt hw o ho
  unfold F101_1_B at ho;obtain⟨x5,dC,ho⟩:=bS ho;obtain⟨iE,iD⟩:=qg dC;obtain⟨x7,dF,ho⟩:=bS ho;have w8:ans A 115 [iL x5,V.fn 123 [] []]=some (iI x7):=s115 x5 (fun x=> F123 x) (Clo1.of (by intro h f; simp only[RZ,mapO]) (by intro h f; simp only[RZ,mapO]) (by intro f; simp only[RZ,RB]) (by intro f; simp only[RZ,RB]) (fun x _ hr=> s123 x hr)) dF;obtain⟨tL,lD,ho⟩:=bS ho;have w9:=fun a b c d e=> qF (α:=Int) (n:=aC.length) (m:=1) (ds:=[iI x7]) lD (by first|rfl|simp) (by first|rfl|simp) rfl a b c d e;have w9l:=qZ lD;cases ho;simp only[simprocAttr,R0,b101_1, *];refine ai rfl (ei _ (ei _ (ai rfl ?_)));simp only[simprocAttr,R0, *]
 ·rintro aL aC e h ⟨u2,k3,rfl,h_1⟩ hge t1 ho
  unfold F101_1_D at ho;cases ho;simp only[simprocAttr,R0,b101_1, *];intro ht; subst ht;refine ai rfl (ei _ (ei _ (ai rfl ?_)));simp only[simprocAttr,R0, *]
theorem s101(a0:L2){r:L1}(hF:F101 a0=some r):ans A 101 [iL a0]=some (enc r):=by
 refine qv (f:=p101) rfl rfl rfl fun e hl he=>?_;have aA:=he 0 _ rfl;have hl_0:e.length=20:=hl;clear he hl;show W A b101 e ⟨[],0⟩ _;unfold F101 at hF;obtain⟨aD,kJ,hF⟩:=bS hF;simp only[simprocAttr, -Int.reduceNatCast',R0,b101, *];refine W.mono (l101_1 a0 kJ (ei _ (ei _ (ai rfl ?_)))) ?_
 ·simp only[simprocAttr, -Int.reduceNatCast',R0, *]
 rintro _ e _ ⟨rfl,u2,k3,rfl,hl_4,h3_4⟩;have hE:=wA hF; subst hE;simp only[simprocAttr, -Int.reduceNatCast',R0, *];exact qc (by simp only[simprocAttr, -Int.reduceNatCast',R0,qe,p101,Rs.ev,qb,frzs (α:=Int) aD,qM (α:=Int) aD, *])
def F205_1_B(p:Int)(rows:L2)(ls:L1)(i:Int)(out:L1):Option (L1⊕L1):=(getI ls i).bind fun a=>(getI rows i).bind fun r=>(getI out a).bind fun x=>(F139 out r p x).bind fun o=> some (.inl o)
def F205_1_D(i:Int)(out:L1):Option L1:=some out
def F205(p:Int)(v:L1)(rows:L2):Option L1:=(F96 v).bind fun d=>(F101 rows).bind fun ls=> forR 0 (ls.length:Int) (F205_1_B p rows ls) F205_1_D d
theorem d205(p:Int)(v:L1)(rows:L2){r:L1}(hF:F205 p v rows=some r):∃w h',res A 205 [iI p,iL v,iL rows] Heap.empty=some (w,h')∧∃K,Deep.rep h' w r K:=by
 refine res_dp (f:=p205) rfl rfl rfl fun e hl he=>?_;have aA:=he 0 _ rfl;have aB:=he 1 _ rfl;have aN:=he 2 _ rfl;have hl_0:e.length=33:=hl;clear he hl;show W A b205 e ⟨[],0⟩ _;unfold F205 at hF;obtain⟨d,gd,hF⟩:=bS hF;have wd:=t96 v gd;obtain⟨ls,gls,hF⟩:=bS hF;have wls:ans A 101 [iL rows]=some (iL ls):=s101 rows gls;simp only[simprocAttr,R1,b205,qN,qX, *];show W A (.block 0 (.loop true b205_1)) _ _ _;rw[qj];refine qz hF _ rfl (fun i q e h=>∃k u,h.ents[k]? =some (u,some (q.map enc))∧e.length=33∧e.at 0=iI p∧e.at 2=iL rows∧e.at 7=V.sl k u 0 q.length 1∧e.at 13=iL ls∧e.at 14=iI (ls.length:Int)∧e.at 15=iI i) ?_ ?_ ?_
 ·refine⟨0,0,rfl,?_⟩
  simp only[simprocAttr,R1, *]
 ·clear hl_0 aA aB aN
  rintro i q e ⟨E,c⟩ ⟨k,u,g1,h_1⟩ hlt hw s' ho;unfold F205_1_B at ho;simp only at g1;obtain⟨a,ga,ho⟩:=bS ho;obtain⟨aa,ab⟩:=qg ga;obtain⟨x,gx,ho⟩:=bS ho;obtain⟨xa,xb⟩:=qg gx;obtain⟨y,gy,ho⟩:=bS ho;obtain⟨ya,yb⟩:=qg gy;have yc:=qY gy;obtain⟨o,go,ho⟩:=bS ho;cases ho;obtain⟨w1,w2⟩:=i139 go E c g1;have oy:ze none (List.drop a.toNat (q.map enc))=some (iI y):=qw (by rw[gG,yb]; rfl);simp only[simprocAttr,R1,b205_1,aa,ab,xa,xb,ya,eq_true yc,oy,qG, *];refine ai rfl ⟨k,u,qr (gA g1),?_⟩;simp only[simprocAttr,R1, *]
 ·clear hl_0 aA aB aN
  rintro i q e ⟨E,c⟩ ⟨k,u,g1,h_1⟩ hge t1 ho;unfold F205_1_D at ho;cases ho;simp only at g1;simp only[simprocAttr,R1,b205_1, *];intro ht; subst ht;refine ai (fun _=> trivial) ⟨_,?_,fun x=> x=k,jT (l:=q) g1 fun x=> yA⟩;simp only[simprocAttr,R1,qe,p205,Rs.ev, *]
theorem s205(p:Int)(v:L1)(rows:L2){r:L1}(hF:F205 p v rows=some r):ans A 205 [iI p,iL v,iL rows]=some (enc r):=ans_of_deep (α:=L1) (by decide) (d205 p v rows hF)
def F461_2_B(a0:qa)(a1:qa)(a2:L3)(a3:L3)(bE:Int)(x9:L2)(iP:Int)(s:Unit):Option ((Unit)⊕((Unit)⊕(T2 Bool Int))):=
 (getI x9 iP).bind fun cO=>
(F309 a0 a1 a2 0 bE cO).bind fun cC=>
(F309 a0 a1 a3 0 bE cO).bind fun eM=>
(chk (a0.P - 1)).bind fun dN=>
(F173 a0.P cC eM dN).bind fun dA=>
(F186 a1 bE).bind fun cU=>
(F205 a0.P dA cU).bind fun iW=>
(F92 iW).bind fun lK=>
if lK=true then
 some (.inl ())
else
 some (.inr (.inr ⟨false,0⟩))
def F461_2_D(a0:qa)(a1:qa)(a2:L3)(a3:L3)(bE:Int)(x9:L2)(iP:Int)(s:Unit):Option ((Unit)⊕(T2 Bool Int)):=
 some (.inl ())
def F461_1_B(a0:qa)(a1:qa)(a2:L3)(a3:L3)(bE:Int)(s:Unit):Option ((Unit)⊕((Unit)⊕(T2 Bool Int))):=
 (F100 a0 bE).bind fun x9=>
(forR 0 (x9.length:Int) (F461_2_B a0 a1 a2 a3 bE x9) (F461_2_D a0 a1 a2 a3 bE x9) ()).bind fun lc=> match lc with
 | .inl _=>
  some (.inl ())
 | .inr r30=> some (.inr (.inr r30))
def F461_1_D(a0:qa)(a1:qa)(a2:L3)(a3:L3)(bE:Int)(s:Unit):Option ((Unit)⊕(T2 Bool Int)):=
 some (.inl ())
def F461(a0:qa)(a1:qa)(a2:L3)(a3:L3):Option (T2 Bool Int):=
 (F244 a0 a1 [a2,a3]).bind fun x1=>
 if x1=0 then
  (forR 0 (a0.D.length:Int) (F461_1_B a0 a1 a2 a3) (F461_1_D a0 a1 a2 a3) ()).bind fun kz=> match kz with
   | .inl _=>
    some ⟨true,0⟩
   | .inr r32=> some r32
 else
  some ⟨false,x1⟩
def I461_2(a0:qa)(a1:qa)(a2:L3)(a3:L3)(bE:Int)(x9:L2)(iP:Int)(s:Unit)(e:Env)(h:Heap):Prop:=
 ∃iS:Nat,h=⟨[(0,none),(0,none),(2,some [iL a2,iL a3])],iS⟩∧e.length=67∧e.at 2=iL a2∧e.at 3=iL a3∧e.at 4=eP a0∧e.at 5=eP a1∧e.at 11=iI a0.P∧e.at 12=iI bE∧e.at 29=iI (a0.D.length:Int)∧e.at 30=iI bE∧e.at 35=iL x9∧e.at 36=iI (x9.length:Int)∧e.at 37=iI iP
def P461_2(a0:qa)(a1:qa)(a2:L3)(a3:L3)(bE:Int)(x9:L2)(t:(Unit)⊕(T2 Bool Int))(x:Ex)(e:Env)(h:Heap):Prop:=
 match t with
 | .inl _=> x= .normal∧∃iS:Nat,h=⟨[(0,none),(0,none),(2,some [iL a2,iL a3])],iS⟩∧e.length=67∧e.at 2=iL a2∧e.at 3=iL a3∧e.at 4=eP a0∧e.at 5=eP a1∧e.at 11=iI a0.P∧e.at 29=iI (a0.D.length:Int)∧e.at 30=iI bE
 | .inr r=> x= .ret∧Fin p461 (EncR.enc r) .ret e h
theorem l461_2(a0:qa)(a1:qa)(a2:L3)(a3:L3)(bE:Int)(x9:L2){lo:Int}{s:Unit}{t:(Unit)⊕(T2 Bool Int)}(hF:forR lo (x9.length:Int) (F461_2_B a0 a1 a2 a3 bE x9) (F461_2_D a0 a1 a2 a3 bE x9) s=some t){e:Env}{h:Heap}(hI:I461_2 a0 a1 a2 a3 bE x9 lo s e h):W A c461_2 e h (P461_2 a0 a1 a2 a3 bE x9 t):=by
 show W A (.block 2 (.loop false b461_2)) e h _;rw[qj];refine qz hF 3 (by obtain⟨_,rfl,_⟩:=hI; rfl) (I461_2 a0 a1 a2 a3 bE x9) hI ?_ ?_
 ·rintro iP _ e h ⟨iS,rfl,h_11⟩ hlt hw o ho
  unfold F461_2_B at ho;obtain⟨cO,eF,ho⟩:=bS ho;obtain⟨kQ,iH⟩:=qg eF;obtain⟨cC,dM,ho⟩:=bS ho;have rE:=s309 a0 a1 a2 0 bE cO dM;obtain⟨eM,eE,ho⟩:=bS ho;have e9:=s309 a0 a1 a3 0 bE cO eE;obtain⟨dN,eT,ho⟩:=bS ho;have sB:=qu eT;obtain⟨dA,dL,ho⟩:=bS ho;have sL:=s173 a0.P cC eM dN dL;obtain⟨cU,iC,ho⟩:=bS ho;have cy:=s186 a1 bE iC;obtain⟨iW,iB,ho⟩:=bS ho;have w26:=s205 a0.P dA cU iB;obtain⟨lK,lY,ho⟩:=bS ho;have w28:=s92 iW lY;cases lK with
  |true=>
   rw[if_pos rfl]at ho;cases ho;simp only[simprocAttr,R0,b461_2, *];refine ai rfl (ei _ (ai rfl ?_));simp only[simprocAttr,R0, *]
  |false=>
   rw[if_neg wD]at ho;cases ho;simp only[simprocAttr,R0,b461_2, *];intro ht; subst ht;simp only[simprocAttr,RR,RB];exact ai rfl (qc (by simp only[simprocAttr,R0,qe,p461,Rs.ev,qb, *]))
 ·rintro iP _ e h ⟨iS,rfl,h_11⟩ hge t1 ho
  unfold F461_2_D at ho;cases ho;simp only[simprocAttr,R0,b461_2, *];intro ht; subst ht;refine ai rfl (ei _ (ai rfl ?_));simp only[simprocAttr,R0, *]
def I461_1(a0:qa)(a1:qa)(a2:L3)(a3:L3)(bE:Int)(s:Unit)(e:Env)(h:Heap):Prop:=
 ∃k7:Nat,h=⟨[(0,none),(0,none),(2,some [iL a2,iL a3])],k7⟩∧e.length=67∧e.at 2=iL a2∧e.at 3=iL a3∧e.at 4=eP a0∧e.at 5=eP a1∧e.at 11=iI a0.P∧e.at 29=iI (a0.D.length:Int)∧e.at 30=iI bE
def P461_1(a0:qa)(a1:qa)(a2:L3)(a3:L3)(t:(Unit)⊕(T2 Bool Int))(x:Ex)(e:Env)(h:Heap):Prop:=
 match t with
 | .inl _=> x= .normal∧∃k7:Nat,h=⟨[(0,none),(0,none),(2,some [iL a2,iL a3])],k7⟩∧e.length=67
 | .inr r=> x= .ret∧Fin p461 (EncR.enc r) .ret e h
theorem l461_1(a0:qa)(a1:qa)(a2:L3)(a3:L3){lo:Int}{s:Unit}{t:(Unit)⊕(T2 Bool Int)}(hF:forR lo (a0.D.length:Int) (F461_1_B a0 a1 a2 a3) (F461_1_D a0 a1 a2 a3) s=some t){e:Env}{h:Heap}(hI:I461_1 a0 a1 a2 a3 lo s e h):W A c461_1 e h (P461_1 a0 a1 a2 a3 t):=by
 show W A (.block 0 (.loop false b461_1)) e h _;rw[qj];refine qz hF 3 (by obtain⟨_,rfl,_⟩:=hI; rfl) (I461_1 a0 a1 a2 a3) hI ?_ ?_
 ·rintro bE _ e h ⟨k7,rfl,h_6⟩ hlt hw o ho
  unfold F461_1_B at ho;obtain⟨x9,eJ,ho⟩:=bS ho;have pC:=s100 a0 bE eJ;obtain⟨lc,bl,ho⟩:=bS ho;rcases lc with _|r30
  ·dsimp only at ho
   simp only[simprocAttr,R0,b461_1, *];refine W.mono (l461_2 a0 a1 a2 a3 bE x9 bl (ei _ (ai rfl ?_))) ?_
   ·simp only[simprocAttr,R0, *]
   rintro _ e _ ⟨rfl,iS,rfl,h_13⟩;cases ho;simp only[simprocAttr,R0, *];refine ai rfl (ei _ (ai rfl ?_));simp only[simprocAttr,R0, *]
  ·dsimp only at ho
   cases ho;simp only[simprocAttr,R0,b461_1, *];refine W.mono (l461_2 a0 a1 a2 a3 bE x9 bl (ei _ (ai rfl ?_))) ?_
   ·simp only[simprocAttr,R0, *]
   rintro _ e h ⟨rfl,hq⟩;simp only[simprocAttr,RR,RB];intro ht; subst ht;simp only[simprocAttr,RR,RB];exact ai rfl hq
 ·rintro bE _ e h ⟨k7,rfl,h_6⟩ hge t1 ho
  unfold F461_1_D at ho;cases ho;simp only[simprocAttr,R0,b461_1, *];intro ht; subst ht;refine ai rfl (ei _ (ai rfl ?_));simp only[simprocAttr,R0, *]
theorem s461(a0:qa)(a1:qa)(a2:L3)(a3:L3){r:T2 Bool Int}(hF:F461 a0 a1 a2 a3=some r):ans A 461 [(eC a0),(eC a1),iL a2,iL a3]=some (EncR.enc r):=by
 refine qv (f:=p461) rfl rfl rfl fun e hl he=>?_;have aA:=he 0 _ rfl;have aB:=he 1 _ rfl;have aN:=he 2 _ rfl;have bR:=he 3 _ rfl;have hl_0:e.length=67:=hl;clear he hl;have h_0:=ai hl_0 (ai aA (ai aB (ai aN bR)));show W A b461 e ⟨[],0⟩ _;unfold F461 at hF;obtain⟨x1,bI,hF⟩:=bS hF;have w2:ans A 244 [(eC a0),(eC a1),V.isl [iL a2,iL a3]]=some (iI x1):=s244 a0 a1 [a2,a3] bI;by_cases c3:x1=0
 ·rw[if_pos c3]at hF
  have w5:ans A 73 [iL a0.D]=some (iI (a0.D.length:Int)):=s73 a0.D rfl;obtain⟨kz,bk,hF⟩:=bS hF;rcases kz with _|r32
  ·dsimp only at hF
   simp only[simprocAttr,R0,b461, *];refine W.mono (l461_1 a0 a1 a2 a3 bk (ei _ (ai rfl ?_))) ?_
   ·simp only[simprocAttr,R0, *]
   rintro _ e _ ⟨rfl,k7,rfl,hl_8⟩;cases hF;simp only[simprocAttr,R0, *];exact qc (by simp only[simprocAttr,R0,qe,p461,Rs.ev,qb, *])
  ·dsimp only at hF
   cases hF;simp only[simprocAttr,R0,b461, *];refine W.mono (l461_1 a0 a1 a2 a3 bk (ei _ (ai rfl ?_))) ?_
   ·simp only[simprocAttr,R0, *]
   rintro _ e h ⟨rfl,hq⟩;simp only[simprocAttr,RR,RB];exact hq
 ·rw[if_neg c3]at hF
  cases hF;simp only[simprocAttr,R0,b461, *];exact qc (by simp only[simprocAttr,R0,qe,p461,Rs.ev,qb, *])
def F251(a0:qa)(a1:Int):Option L2:=
 (chk (a1+1)).bind fun x1=>
 (F76 a0 x1).bind fun x2=>
 (F131 a0.P x2).bind fun x4=>
 some x4
theorem s251(a0:qa)(a1:Int){r:L2}(hF:F251 a0 a1=some r):ans A 251 [(eC a0),iI a1]=some (enc r):=by
 refine qv (f:=p251) rfl rfl rfl fun e hl he=>?_;have aA:=he 0 _ rfl;have aB:=he 1 _ rfl;have hl_0:e.length=12:=hl;clear he hl;show W A b251 e ⟨[],0⟩ _;unfold F251 at hF;obtain⟨x1,bI,hF⟩:=bS hF;have fi:=qu bI;obtain⟨x2,fK,hF⟩:=bS hF;have w3:=s76 a0 x1 fK;obtain⟨x4,dK,hF⟩:=bS hF;have w5:=s131 a0.P x2 dK;cases hF;simp only[simprocAttr,R0,b251, *];exact qc (by simp only[simprocAttr,R0,qe,p251,Rs.ev,qb, *])
end
end Rv
