/- What the abstract code answers: typed functions, part 1. -/
import Derived.Test.YtadnnniccgdigaaGreatPfp
namespace Rv
open Enc (enc)
theorem ai{a b:Prop}(x:a)(y:b):a∧b:=⟨x,y⟩
theorem ei.{u}{α:Sort u}{p:α→Prop}(w:α)(h:p w):∃x,p x:=⟨w,h⟩
set_option linter.unusedVariables false
set_option linter.unusedSimpArgs false
set_option maxRecDepth 100000
noncomputable section
abbrev eS(x:qo):List V:=[V.isl (x.code.map enc),V.int .i64 x.at_,V.int .u64 x.hash]
abbrev eP(x:qe):V:=V.iptr [V.int .i64 x.P,V.isl (x.D.map enc),V.isl (x.M.map enc)]
abbrev eQ(x:qc):V:=V.iptr [V.int .i64 x.C.P,V.isl (x.C.D.map enc),V.isl (x.C.M.map enc),V.isl (x.L.map enc)]
abbrev iI(n:Int):V:=V.int .i64 n
abbrev iL{α:Type}[Enc α](l:List α):V:=V.isl (l.map enc)
abbrev nO:=Nat×Option (List V)
abbrev eC(x:qe):V:=V.agg [V.int .i64 x.P,V.isl (x.D.map enc),V.isl (x.M.map enc)]
abbrev eF(x:qc):V:=V.agg [V.int .i64 x.C.P,V.isl (x.C.D.map enc),V.isl (x.C.M.map enc),V.isl (x.L.map enc)]
theorem R1:type_of%(ai RR (ai RB (ai RZ (ai @ii_eq <|ai @nn_eq <|ai @oM_e <|ai @oL_e <|ai @oS_e <|ai @oF_e <|ai @oB_e <|ai @oC_e <|ai @oI_e <|ai @oN_e <|ai @oP_e <|ai @oQ_e <|ai @oR_e <|ai @oU_e <|ai @opEv.eq_1 <|ai @opEv.eq_2 <|ai @opEv.eq_3 <|ai @opEv.eq_4 <|ai @opEv.eq_5 <|ai @opEv.eq_6 <|ai @opEv.eq_7 <|ai @opEv.eq_8 <|ai @opEv.eq_9 <|ai @opEv.eq_10 <|ai @opEv.eq_11 <|ai @opEv.eq_12 <|ai @opEv.eq_13 <|ai @opEv.eq_14 <|ai @opEv.eq_15 <|ai @opEv.eq_16 <|ai @opEv.eq_17 <|ai @opEv.eq_18 <|ai @opEv.eq_19 <|ai @opEv.eq_20 <|ai @opEv.eq_21 <|ai @opEv.eq_22 <|ai @opEv.eq_23 <|ai @opEv.eq_24 <|ai @opEv.eq_25 <|ai @opEv.eq_26 <|ai @opEv.eq_27 <|ai @opEv.eq_28 <|ai @opEv.eq_29 <|ai @opEv.eq_30 <|ai @opEv.eq_31 <|ai @opEv.eq_32 <|ai @opEv.eq_33 <|ai @opEv.eq_34 <|ai @opEv.eq_35 <|ai @opEv.eq_36 <|ai @opEv.eq_37 <|ai @xz.eq_1 <|ai @xz.eq_2 <|ai @mapO.eq_1 <|ai @mapO.eq_2 <|ai @mapS.eq_1 <| @mapS.eq_2)))):=ai RR (ai RB (ai RZ (ai @ii_eq <|ai @nn_eq <|ai @oM_e <|ai @oL_e <|ai @oS_e <|ai @oF_e <|ai @oB_e <|ai @oC_e <|ai @oI_e <|ai @oN_e <|ai @oP_e <|ai @oQ_e <|ai @oR_e <|ai @oU_e <|ai @opEv.eq_1 <|ai @opEv.eq_2 <|ai @opEv.eq_3 <|ai @opEv.eq_4 <|ai @opEv.eq_5 <|ai @opEv.eq_6 <|ai @opEv.eq_7 <|ai @opEv.eq_8 <|ai @opEv.eq_9 <|ai @opEv.eq_10 <|ai @opEv.eq_11 <|ai @opEv.eq_12 <|ai @opEv.eq_13 <|ai @opEv.eq_14 <|ai @opEv.eq_15 <|ai @opEv.eq_16 <|ai @opEv.eq_17 <|ai @opEv.eq_18 <|ai @opEv.eq_19 <|ai @opEv.eq_20 <|ai @opEv.eq_21 <|ai @opEv.eq_22 <|ai @opEv.eq_23 <|ai @opEv.eq_24 <|ai @opEv.eq_25 <|ai @opEv.eq_26 <|ai @opEv.eq_27 <|ai @opEv.eq_28 <|ai @opEv.eq_29 <|ai @opEv.eq_30 <|ai @opEv.eq_31 <|ai @opEv.eq_32 <|ai @opEv.eq_33 <|ai @opEv.eq_34 <|ai @opEv.eq_35 <|ai @opEv.eq_36 <|ai @opEv.eq_37 <|ai @xz.eq_1 <|ai @xz.eq_2 <|ai @mapO.eq_1 <|ai @mapO.eq_2 <|ai @mapS.eq_1 <| @mapS.eq_2)))
theorem R0:type_of%(ai R1 RE):=ai R1 RE
def F54(a0:Int)(a1:Int)(a2:Int):Option Bool:=
 if a1≤a0 then
  some (decide (a0≤a2))
 else
  some false
theorem s54(a0:Int)(a1:Int)(a2:Int){r:Bool}(hF:F54 a0 a1 a2=some r):ans A 54 [iI a0,iI a1,iI a2]=some (enc r):=by
 refine qB (f:=p54) rfl rfl rfl fun e hl he=>?_;have aA:=he 0 _ rfl;have aB:=he 1 _ rfl;have aU:=he 2 _ rfl;have hl_0:e.length=15:=hl;clear he hl;have h_0:=ai hl_0 (ai aA (ai aB aU));show W A b54 e ⟨[],0⟩ _;unfold F54 at hF;by_cases c1:a1≤a0
 ·rw[if_pos c1]at hF
  cases hF;simp only[simprocAttr,R0,b54, *];exact qh (by simp only[simprocAttr,R0,qg,p54,Rs.ev,qd, *])
 ·rw[if_neg c1]at hF
  cases hF;simp only[simprocAttr,R0,b54, *];exact qh (by simp only[simprocAttr,R0,qg,p54,Rs.ev,qd, *])
def F78(a0:Int):Option Bool:=
 if a0=2 then
  some true
 else
  if a0=3 then
   some true
  else
   if a0=5 then
    some true
   else
    some (decide (a0=7))
theorem s78(a0:Int){r:Bool}(hF:F78 a0=some r):ans A 78 [iI a0]=some (enc r):=by
 refine qB (f:=p78) rfl rfl rfl fun e hl he=>?_;have aA:=he 0 _ rfl;have hl_0:e.length=17:=hl;clear he hl;have h_0:=ai hl_0 aA;show W A b78 e ⟨[],0⟩ _;unfold F78 at hF;by_cases c1:a0=2
 ·rw[if_pos c1]at hF
  cases hF;simp only[simprocAttr,R0,b78, *];exact qh (by simp only[simprocAttr,R0,qg,p78,Rs.ev,qd, *])
 ·rw[if_neg c1]at hF
  by_cases c2:a0=3
  ·rw[if_pos c2]at hF
   cases hF;simp only[simprocAttr,R0,b78, *];exact qh (by simp only[simprocAttr,R0,qg,p78,Rs.ev,qd, *])
  ·rw[if_neg c2]at hF
   by_cases c3:a0=5
   ·rw[if_pos c3]at hF
    cases hF;simp only[simprocAttr,R0,b78, *];exact qh (by simp only[simprocAttr,R0,qg,p78,Rs.ev,qd, *])
   ·rw[if_neg c3]at hF
    cases hF;simp only[simprocAttr,R0,b78, *];exact qh (by simp only[simprocAttr,R0,qg,p78,Rs.ev,qd, *])
def F79_2_S(a0:Int)(a1:aJ)(a3:Int)(cY:Int)(aV:Int):Option ((Int)⊕((Unit)⊕Bool)):=
 (getI a1 cY).bind fun bC=>
if aV < (bC.length:Int)then
 (getI bC aV).bind fun cW=>
 (chk (a0 - 1)).bind fun iG=>
 (F54 cW 0 iG).bind fun dO=>
 if dO=true then
  (chk (aV+1)).bind fun fG=>
  some (.inl fG)
 else
  some (.inr (.inr false))
else
 some (.inr (.inl ()))
def F79_1_B(a0:Int)(a1:aJ)(a3:Int)(cY:Int)(s:Unit):Option ((Unit)⊕((Unit)⊕Bool)):=
 (getI a1 cY).bind fun x5=>
if(x5.length:Int)=a3 then
 (qY (F79_2_S a0 a1 a3 cY) 0).bind fun cj=> match cj with
  | .inl _=>
   some (.inl ())
  | .inr cx=> some (.inr (.inr cx))
else
 some (.inr (.inr false))
def F79_1_D(a0:Int)(a1:aJ)(a3:Int)(cY:Int)(s:Unit):Option ((Unit)⊕Bool):=
 some (.inl ())
def F79(a0:Int)(a1:aJ)(a2:Int)(a3:Int):Option Bool:=
 if(a1.length:Int)=a2 then
  (forR 0 (a1.length:Int) (F79_1_B a0 a1 a3) (F79_1_D a0 a1 a3) ()).bind fun pn=> match pn with
   | .inl _=>
    some true
   | .inr r23=> some r23
 else
  some false
def I79_2(a0:Int)(a1:aJ)(a3:Int)(cY:Int)(aV:Int)(e:Env)(h:Heap):Prop:=
 ∃k9:Nat,h=⟨[],k9⟩∧e.length=48∧e.at 0=iI a0∧e.at 1=iL a1∧e.at 3=iI a3∧e.at 9=iI cY∧e.at 10=iI aV
def P79_2(a0:Int)(a1:aJ)(a3:Int)(cY:Int)(t:(Unit)⊕Bool)(x:Ex)(e:Env)(h:Heap):Prop:=
 match t with
 | .inl _=> x= .normal∧∃k9:Nat,h=⟨[],k9⟩∧e.length=48∧e.at 0=iI a0∧e.at 1=iL a1∧e.at 3=iI a3∧e.at 9=iI cY
 | .inr r=> x= .ret∧Fin p79 (enc r) .ret e h
theorem l79_2(a0:Int)(a1:aJ)(a3:Int)(cY:Int){s:Int}{t:(Unit)⊕Bool}(hF:qY (F79_2_S a0 a1 a3 cY) s=some t){e:Env}{h:Heap}(hI:I79_2 a0 a1 a3 cY s e h):W A c79_2 e h (P79_2 a0 a1 a3 cY t):=by
 show W A (.block 2 (.loop false b79_2)) e h _;rw[qp];refine zW hF 0 (by obtain⟨_,rfl,_⟩:=hI; rfl) (I79_2 a0 a1 a3 cY) hI ?_
 ·rintro aV e h ⟨k9,rfl,h_8⟩ o ho
  unfold F79_2_S at ho;obtain⟨bC,dU,ho⟩:=bS ho;obtain⟨kV,kU⟩:=qm dU;by_cases sG:aV < (bC.length:Int)
  ·rw[if_pos sG]at ho
   obtain⟨cW,dY,ho⟩:=bS ho;obtain⟨rK,rJ⟩:=qm dY;obtain⟨iG,iU,ho⟩:=bS ho;have d9:=qD iU;obtain⟨dO,fI,ho⟩:=bS ho;have pZ:=s54 cW 0 iG fI;cases dO with
   |true=>
    rw[if_pos rfl]at ho;obtain⟨fG,iT,ho⟩:=bS ho;have ag:=qD iT;cases ho;simp only[simprocAttr,R0,b79_2, *];refine ai rfl (ei _ (ai rfl ?_));simp only[simprocAttr,R0, *]
   |false=>
    rw[if_neg wD]at ho;cases ho;simp only[simprocAttr,R0,b79_2, *];intro ht; subst ht;simp only[simprocAttr,RR,RB];exact ai rfl (qh (by simp only[simprocAttr,R0,qg,p79,Rs.ev,qd, *]))
  ·rw[if_neg sG]at ho
   cases ho;simp only[simprocAttr,R0,b79_2, *];intro ht; subst ht;simp only[simprocAttr,RR,RB];refine ai rfl (ei _ (ai rfl ?_));simp only[simprocAttr,R0, *]
def I79_1(a0:Int)(a1:aJ)(a3:Int)(cY:Int)(s:Unit)(e:Env)(h:Heap):Prop:=
 ∃k3:Nat,h=⟨[],k3⟩∧e.length=48∧e.at 0=iI a0∧e.at 1=iL a1∧e.at 3=iI a3∧e.at 9=iI cY
def P79_1(a0:Int)(a1:aJ)(a3:Int)(t:(Unit)⊕Bool)(x:Ex)(e:Env)(h:Heap):Prop:=
 match t with
 | .inl _=> x= .normal∧∃k3:Nat,h=⟨[],k3⟩∧e.length=48
 | .inr r=> x= .ret∧Fin p79 (enc r) .ret e h
theorem l79_1(a0:Int)(a1:aJ)(a3:Int){lo:Int}{s:Unit}{t:(Unit)⊕Bool}(hF:forR lo (a1.length:Int) (F79_1_B a0 a1 a3) (F79_1_D a0 a1 a3) s=some t){e:Env}{h:Heap}(hI:I79_1 a0 a1 a3 lo s e h):W A c79_1 e h (P79_1 a0 a1 a3 t):=by
 show W A (.block 0 (.loop false b79_1)) e h _;rw[qp];refine qF hF 0 (by obtain⟨_,rfl,_⟩:=hI; rfl) (I79_1 a0 a1 a3) hI ?_ ?_
 ·rintro cY _ e h ⟨k3,rfl,h_2⟩ hlt hw o ho
  unfold F79_1_B at ho;obtain⟨x5,dB,ho⟩:=bS ho;obtain⟨lH,lG⟩:=qm dB;by_cases c7:(x5.length:Int)=a3
  ·rw[if_pos c7]at ho
   obtain⟨cj,pT,ho⟩:=bS ho;rcases cj with _|cx
   ·dsimp only at ho
    simp only[simprocAttr,R0,b79_1, *];refine W.mono (l79_2 a0 a1 a3 cY pT (ei _ (ai rfl ?_))) ?_
    ·simp only[simprocAttr,R0, *]
    rintro _ e _ ⟨rfl,k9,rfl,h_10⟩;cases ho;simp only[simprocAttr,R0, *];refine ai rfl (ei _ (ai rfl ?_));simp only[simprocAttr,R0, *]
   ·dsimp only at ho
    cases ho;simp only[simprocAttr,R0,b79_1, *];refine W.mono (l79_2 a0 a1 a3 cY pT (ei _ (ai rfl ?_))) ?_
    ·simp only[simprocAttr,R0, *]
    rintro _ e h ⟨rfl,hq⟩;simp only[simprocAttr,RR,RB];intro ht; subst ht;simp only[simprocAttr,RR,RB];exact ai rfl hq
  ·rw[if_neg c7]at ho
   cases ho;simp only[simprocAttr,R0,b79_1, *];intro ht; subst ht;simp only[simprocAttr,RR,RB];exact ai rfl (qh (by simp only[simprocAttr,R0,qg,p79,Rs.ev,qd, *]))
 ·rintro cY _ e h ⟨k3,rfl,h_2⟩ hge t1 ho
  unfold F79_1_D at ho;cases ho;simp only[simprocAttr,R0,b79_1, *];intro ht; subst ht;refine ai rfl (ei _ (ai rfl ?_));simp only[simprocAttr,R0, *]
theorem s79(a0:Int)(a1:aJ)(a2:Int)(a3:Int){r:Bool}(hF:F79 a0 a1 a2 a3=some r):ans A 79 [iI a0,iL a1,iI a2,iI a3]=some (enc r):=by
 refine qB (f:=p79) rfl rfl rfl fun e hl he=>?_;have aA:=he 0 _ rfl;have aB:=he 1 _ rfl;have aU:=he 2 _ rfl;have cX:=he 3 _ rfl;have hl_0:e.length=48:=hl;clear he hl;have h_0:=ai hl_0 (ai aA (ai aB (ai aU cX)));show W A b79 e ⟨[],0⟩ _;unfold F79 at hF;by_cases c1:(a1.length:Int)=a2
 ·rw[if_pos c1]at hF
  obtain⟨pn,fo,hF⟩:=bS hF;rcases pn with _|r23
  ·dsimp only at hF
   simp only[simprocAttr,R0,b79, *];refine W.mono (l79_1 a0 a1 a3 fo (ei _ (ai rfl ?_))) ?_
   ·simp only[simprocAttr,R0, *]
   rintro _ e _ ⟨rfl,k3,rfl,hl_4⟩;cases hF;simp only[simprocAttr,R0, *];exact qh (by simp only[simprocAttr,R0,qg,p79,Rs.ev,qd, *])
  ·dsimp only at hF
   cases hF;simp only[simprocAttr,R0,b79, *];refine W.mono (l79_1 a0 a1 a3 fo (ei _ (ai rfl ?_))) ?_
   ·simp only[simprocAttr,R0, *]
   rintro _ e h ⟨rfl,hq⟩;simp only[simprocAttr,RR,RB];exact hq
 ·rw[if_neg c1]at hF
  cases hF;simp only[simprocAttr,R0,b79, *];exact qh (by simp only[simprocAttr,R0,qg,p79,Rs.ev,qd, *])
def F80_2_S(a0:Int)(a1:aJ)(a2:L1)(cE:Int)(s:L1×Int):Option ((L1×Int)⊕(L1)):=
 match s with
 |(dT,fC)=>
  if fC < ((dT.length:Nat):Int)then
   (getI dT fC).bind fun kT=>
   (getI a2 cE).bind fun cW=>
   (getI a1 cE).bind fun iG=>
   (getI iG fC).bind fun pM=>
   (chk (cW*pM)).bind fun fF=>
   (chk (kT+fF)).bind fun gY=>
   (remI gY a0).bind fun fA=>
   (setI dT fC fA).bind fun rh=>
   (chk (fC+1)).bind fun fZ=>
   some (.inl (rh,fZ))
  else
   some (.inr dT)
def F80_1_B(a0:Int)(a1:aJ)(a2:L1)(cE:Int)(aN:L1):Option ((L1)⊕(L1)):=
 (qY (F80_2_S a0 a1 a2 cE) (aN,0)).bind fun fP=>
some (.inl fP)
def F80_1_D(a0:Int)(a1:aJ)(a2:L1)(cE:Int)(aN:L1):Option (L1):=
 some aN
def F80(a0:Int)(a1:aJ)(a2:L1)(a3:Int):Option L1:=
 (mkL 8 a3 0).bind fun l1=>
 (forR 0 (a2.length:Int) (F80_1_B a0 a1 a2) (F80_1_D a0 a1 a2) l1).bind fun aM=>
 some aM
def I80_2(a0:Int)(a1:aJ)(a2:L1)(cE:Int)(s:L1×Int)(e:Env)(h:Heap):Prop:=
 match s with
 |(dT,fC)=>
  ∃u8 k9:Nat,h=⟨[(u8,some (dT.map enc))],k9⟩∧e.length=49∧e.at 0=iI a0∧e.at 1=iL a1∧e.at 2=iL a2∧e.at 9=V.sl 0 u8 0 dT.length 1∧e.at 10=iI cE∧e.at 11=iI fC
def P80_2(a0:Int)(a1:aJ)(a2:L1)(cE:Int)(fP:L1)(x:Ex)(e:Env)(h:Heap):Prop:=
 x= .normal∧∃u8 k9:Nat,h=⟨[(u8,some (fP.map enc))],k9⟩∧e.length=49∧e.at 0=iI a0∧e.at 1=iL a1∧e.at 2=iL a2∧e.at 9=V.sl 0 u8 0 fP.length 1∧e.at 10=iI cE
theorem l80_2(a0:Int)(a1:aJ)(a2:L1)(cE:Int){s:L1×Int}{t:L1}(hF:qY (F80_2_S a0 a1 a2 cE) s=some t){e:Env}{h:Heap}(hI:I80_2 a0 a1 a2 cE s e h):W A c80_2 e h (P80_2 a0 a1 a2 cE t):=by
 show W A (.block 2 (.loop false b80_2)) e h _;rw[qp];refine zW hF 1 (by rcases s with⟨_,_⟩; obtain⟨_,_,rfl,_⟩:=hI; rfl) (I80_2 a0 a1 a2 cE) hI ?_
 ·rintro⟨dT,fC⟩ e h ⟨u8,k9,rfl,h_7⟩ o ho
  unfold F80_2_S at ho;dsimp only at ho;by_cases io:fC < ((dT.length:Nat):Int)
  ·rw[if_pos io]at ho
   obtain⟨kT,kX,ho⟩:=bS ho;obtain⟨w13a,ou⟩:=qm kX;have w13c:=zi kX;have w13d:List.drop (Int.toNat fC) (dT.map enc)=(iI kT)::List.drop ((Int.toNat fC)+1) (dT.map enc):=xh ou;obtain⟨cW,dY,ho⟩:=bS ho;obtain⟨rK,rJ⟩:=qm dY;obtain⟨iG,iU,ho⟩:=bS ho;obtain⟨bu,bt⟩:=qm iU;obtain⟨pM,oW,ho⟩:=bS ho;obtain⟨f7,f0⟩:=qm oW;obtain⟨fF,fS,ho⟩:=bS ho;have sN:=qD fS;obtain⟨gY,iR,ho⟩:=bS ho;have mj:=qD iR;obtain⟨fA,iQ,ho⟩:=bS ho;obtain⟨bk,bj⟩:=rem_w iQ;obtain⟨rh,ve,ho⟩:=bS ho;obtain⟨bh,bg,w25c,w25d,bf⟩:=xB ve;replace bf:List.take (Int.toNat fC) (dT.map enc)++[iI fA]++List.drop (Int.toNat fC+1) (dT.map enc)=List.map enc rh:=bf;obtain⟨fZ,mU,ho⟩:=bS ho;have wx26:=qD mU;cases ho;simp only[simprocAttr,R0,b80_2, *];refine ai rfl (ei _ (ei _ (ai rfl ?_)));simp only[simprocAttr,R0, *]
  ·rw[if_neg io]at ho
   cases ho;simp only[simprocAttr,R0,b80_2, *];intro ht; subst ht;simp only[simprocAttr,RR,RB];refine ai rfl (ei _ (ei _ (ai rfl ?_)));simp only[simprocAttr,R0, *]
def I80_1(a0:Int)(a1:aJ)(a2:L1)(cE:Int)(aN:L1)(e:Env)(h:Heap):Prop:=
 ∃u4 k5:Nat,h=⟨[(u4,some (aN.map enc))],k5⟩∧e.length=49∧e.at 0=iI a0∧e.at 1=iL a1∧e.at 2=iL a2∧e.at 9=V.sl 0 u4 0 aN.length 1∧e.at 10=iI cE
def P80_1(a0:Int)(a1:aJ)(a2:L1)(aM:L1)(x:Ex)(e:Env)(h:Heap):Prop:=
 x= .normal∧∃u4 k5:Nat,h=⟨[(u4,some (aM.map enc))],k5⟩∧e.length=49∧e.at 9=V.sl 0 u4 0 aM.length 1
theorem l80_1(a0:Int)(a1:aJ)(a2:L1){lo:Int}{s:L1}{t:L1}(hF:forR lo (a2.length:Int) (F80_1_B a0 a1 a2) (F80_1_D a0 a1 a2) s=some t){e:Env}{h:Heap}(hI:I80_1 a0 a1 a2 lo s e h):W A c80_1 e h (P80_1 a0 a1 a2 t):=by
 show W A (.block 0 (.loop false b80_1)) e h _;rw[qp];refine qF hF 1 (by obtain⟨_,_,rfl,_⟩:=hI; rfl) (I80_1 a0 a1 a2) hI ?_ ?_
 ·rintro cE aN e h ⟨u4,k5,rfl,h_3⟩ hlt hw o ho
  unfold F80_1_B at ho;obtain⟨fP,ut,ho⟩:=bS ho;simp only[simprocAttr,R0,b80_1, *];refine W.mono (l80_2 a0 a1 a2 cE ut (ei _ (ei _ (ai rfl ?_)))) ?_
  ·simp only[simprocAttr,R0, *]
  rintro _ e _ ⟨rfl,u8,k9,rfl,h_10⟩;cases ho;simp only[simprocAttr,R0, *];refine ai rfl (ei _ (ei _ (ai rfl ?_)));simp only[simprocAttr,R0, *]
 ·rintro cE aN e h ⟨u4,k5,rfl,h_3⟩ hge t1 ho
  unfold F80_1_D at ho;cases ho;simp only[simprocAttr,R0,b80_1, *];intro ht; subst ht;refine ai rfl (ei _ (ei _ (ai rfl ?_)));simp only[simprocAttr,R0, *]
theorem s80(a0:Int)(a1:aJ)(a2:L1)(a3:Int){r:L1}(hF:F80 a0 a1 a2 a3=some r):ans A 80 [iI a0,iL a1,iL a2,iI a3]=some (enc r):=by
 refine qB (f:=p80) rfl rfl rfl fun e hl he=>?_;have aA:=he 0 _ rfl;have aB:=he 1 _ rfl;have aU:=he 2 _ rfl;have cX:=he 3 _ rfl;have hl_0:e.length=49:=hl;clear he hl;show W A b80 e ⟨[],0⟩ _;unfold F80 at hF;obtain⟨l1,tM,hF⟩:=bS hF;obtain⟨tR,tQ,ay,v6,pN⟩:=mkL_w tM;replace pN:(List.replicate (Int.toNat a3) [iI 0]).flatten=List.map enc l1:=pN;obtain⟨aM,p7,hF⟩:=bS hF;simp only[simprocAttr, -Int.reduceNatCast',R0,b80, *];refine W.mono (l80_1 a0 a1 a2 p7 (ei _ (ei _ (ai rfl ?_)))) ?_
 ·simp only[simprocAttr, -Int.reduceNatCast',R0, *]
 rintro _ e _ ⟨rfl,u4,k5,rfl,hl_6,ef⟩;have hE:=wA hF; subst hE;simp only[simprocAttr, -Int.reduceNatCast',R0, *];exact qh (by simp only[simprocAttr, -Int.reduceNatCast',R0,qg,p80,Rs.ev,qd,frzs (α:=Int) aM,qR (α:=Int) aM, *])
theorem t80(a0:Int)(a1:aJ)(a2:L1)(a3:Int){r:L1}(hF:F80 a0 a1 a2 a3=some r):tans A 80 [1] [iI a0,iL a1,iL a2,iI a3]=some (enc r):=by
 refine tans_of (f:=p80) rfl rfl rfl fun e hl he=>?_;have aA:=he 0 _ rfl;have aB:=he 1 _ rfl;have aU:=he 2 _ rfl;have cX:=he 3 _ rfl;have hl_0:e.length=49:=hl;clear he hl;show W A b80 e ⟨[],0⟩ _;unfold F80 at hF;obtain⟨l1,tM,hF⟩:=bS hF;obtain⟨tR,tQ,ay,v6,pN⟩:=mkL_w tM;replace pN:(List.replicate (Int.toNat a3) [iI 0]).flatten=List.map enc l1:=pN;obtain⟨aM,p7,hF⟩:=bS hF;simp only[simprocAttr, -Int.reduceNatCast',R0,b80, *];refine W.mono (l80_1 a0 a1 a2 p7 (ei _ (ei _ (ai rfl ?_)))) ?_
 ·simp only[simprocAttr, -Int.reduceNatCast',R0, *]
 rintro _ e _ ⟨rfl,u4,k5,rfl,hl_6,ef⟩;have hE:=wA hF; subst hE;simp only[simprocAttr, -Int.reduceNatCast',R0, *];exact tfin_ret (by simp only[simprocAttr, -Int.reduceNatCast',R0,qg,p80,Rs.ev,qd,frzs (α:=Int) aM,qR (α:=Int) aM, *])
def F81_1_B(a0:L1)(bY:Int)(s:Unit):Option ((Unit)⊕((Unit)⊕Int)):=
 (getI a0 bY).bind fun x4=>
if x4=0 then
 some (.inl ())
else
 some (.inr (.inr bY))
def F81_1_D(a0:L1)(bY:Int)(s:Unit):Option ((Unit)⊕Int):=
 some (.inl ())
def F81(a0:L1):Option Int:=
 (forR 0 (a0.length:Int) (F81_1_B a0) (F81_1_D a0) ()).bind fun t7=> match t7 with
  | .inl _=>
   some (-1)
  | .inr r8=> some r8
def I81_1(a0:L1)(bY:Int)(s:Unit)(e:Env)(h:Heap):Prop:=
 ∃k2:Nat,h=⟨[],k2⟩∧e.length=16∧e.at 0=iL a0∧e.at 3=iI bY
def P81_1(a0:L1)(t:(Unit)⊕Int)(x:Ex)(e:Env)(h:Heap):Prop:=
 match t with
 | .inl _=> x= .normal∧∃k2:Nat,h=⟨[],k2⟩∧e.length=16
 | .inr r=> x= .ret∧Fin p81 (enc r) .ret e h
theorem l81_1(a0:L1){lo:Int}{s:Unit}{t:(Unit)⊕Int}(hF:forR lo (a0.length:Int) (F81_1_B a0) (F81_1_D a0) s=some t){e:Env}{h:Heap}(hI:I81_1 a0 lo s e h):W A c81_1 e h (P81_1 a0 t):=by
 show W A (.block 0 (.loop false b81_1)) e h _;rw[qp];refine qF hF 0 (by obtain⟨_,rfl,_⟩:=hI; rfl) (I81_1 a0) hI ?_ ?_
 ·rintro bY _ e h ⟨k2,rfl,h_1⟩ hlt hw o ho
  unfold F81_1_B at ho;obtain⟨x4,fM,ho⟩:=bS ho;obtain⟨sS,sR⟩:=qm fM;by_cases c6:x4=0
  ·rw[if_pos c6]at ho
   cases ho;simp only[simprocAttr,R0,b81_1, *];refine ai rfl (ei _ (ai rfl ?_));simp only[simprocAttr,R0, *]
  ·rw[if_neg c6]at ho
   cases ho;simp only[simprocAttr,R0,b81_1, *];intro ht; subst ht;simp only[simprocAttr,RR,RB];exact ai rfl (qh (by simp only[simprocAttr,R0,qg,p81,Rs.ev,qd, *]))
 ·rintro bY _ e h ⟨k2,rfl,h_1⟩ hge t1 ho
  unfold F81_1_D at ho;cases ho;simp only[simprocAttr,R0,b81_1, *];intro ht; subst ht;refine ai rfl (ei _ (ai rfl ?_));simp only[simprocAttr,R0, *]
theorem s81(a0:L1){r:Int}(hF:F81 a0=some r):ans A 81 [iL a0]=some (enc r):=by
 refine qB (f:=p81) rfl rfl rfl fun e hl he=>?_;have aA:=he 0 _ rfl;have hl_0:e.length=16:=hl;clear he hl;have h_0:=ai hl_0 aA;show W A b81 e ⟨[],0⟩ _;unfold F81 at hF;obtain⟨t7,o8,hF⟩:=bS hF;rcases t7 with _|r8
 ·dsimp only at hF
  simp only[simprocAttr,R0,b81, *];refine W.mono (l81_1 a0 o8 (ei _ (ai rfl ?_))) ?_
  ·simp only[simprocAttr,R0, *]
  rintro _ e _ ⟨rfl,k2,rfl,hl_3⟩;cases hF;simp only[simprocAttr,R0, *];exact qh (by simp only[simprocAttr,R0,qg,p81,Rs.ev,qd, *])
 ·dsimp only at hF
  cases hF;simp only[simprocAttr,R0,b81, *];refine W.mono (l81_1 a0 o8 (ei _ (ai rfl ?_))) ?_
  ·simp only[simprocAttr,R0, *]
  rintro _ e h ⟨rfl,hq⟩;simp only[simprocAttr,RR,RB];exact hq
def F39_1_B(a0:qe)(bY:Int)(s:Unit):Option ((Unit)⊕((Unit)⊕Bool)):=
 (getI a0.D bY).bind fun eD=>
(F54 eD 0 8).bind fun kT=>
if kT=true then
 some (.inl ())
else
 some (.inr (.inr false))
def F39_1_D(a0:qe)(bY:Int)(s:Unit):Option ((Unit)⊕Bool):=
 some (.inl ())
def F39_3_S(a0:qe)(dI:Int)(bQ:Int):Option ((Int)⊕((Unit)⊕Bool)):=
 (getI a0.M dI).bind fun eB=>
if bQ < (eB.length:Int)then
 if 0 < dI then
  (chk (dI - 1)).bind fun nT=>
  (getI a0.M nT).bind fun iF=>
  (getI eB bQ).bind fun fN=>
  (getI a0.D nT).bind fun fY=>
  (F80 a0.P iF fN fY).bind fun rG=>
  (F81 rG).bind fun nS=>
  if 0≤nS then
   some (.inr (.inr false))
  else
   (chk (bQ+1)).bind fun r7=>
   some (.inl r7)
 else
  some (.inr (.inl ()))
else
 some (.inr (.inl ()))
def F39_2_B(a0:qe)(dI:Int)(s:Unit):Option ((Unit)⊕((Unit)⊕Bool)):=
 (getI a0.M dI).bind fun pM=>
(getI a0.D (dI+1)).bind fun fF=>
(getI a0.D dI).bind fun fA=>
(F79 a0.P pM fF fA).bind fun x24=>
if x24=true then
 (qY (F39_3_S a0 dI) 0).bind fun sX=> match sX with
  | .inl _=>
   some (.inl ())
  | .inr r47=> some (.inr (.inr r47))
else
 some (.inr (.inr false))
def F39_2_D(a0:qe)(dI:Int)(s:Unit):Option ((Unit)⊕Bool):=
 some (.inl ())
def F39(a0:qe):Option Bool:=
 (F78 a0.P).bind fun x1=>
 if x1=true then
  if(a0.D.length:Int) < 1 then
   some false
  else
   if 6 < (a0.D.length:Int)then
    some false
   else
    (chk ((a0.D.length:Int) - 1)).bind fun x5=>
    if(a0.M.length:Int)=x5 then
     (forR 0 (a0.D.length:Int) (F39_1_B a0) (F39_1_D a0) ()).bind fun pt=> match pt with
      | .inl _=>
       (forR 0 (a0.M.length:Int) (F39_2_B a0) (F39_2_D a0) ()).bind fun pi=> match pi with
        | .inl _=>
         some true
        | .inr r49=> some r49
      | .inr cu=> some cu
    else
     some false
 else
  some false
def I39_1(a0:qe)(bY:Int)(s:Unit)(e:Env)(h:Heap):Prop:=
 ∃k8:Nat,h=⟨[(0,none)],k8⟩∧e.length=112∧e.at 1=eP a0∧e.at 3=iI bY
def P39_1(a0:qe)(t:(Unit)⊕Bool)(x:Ex)(e:Env)(h:Heap):Prop:=
 match t with
 | .inl _=> x= .normal∧∃k8:Nat,h=⟨[(0,none)],k8⟩∧e.length=112∧e.at 1=eP a0
 | .inr r=> x= .ret∧Fin p39 (enc r) .ret e h
theorem l39_1(a0:qe){lo:Int}{s:Unit}{t:(Unit)⊕Bool}(hF:forR lo (a0.D.length:Int) (F39_1_B a0) (F39_1_D a0) s=some t){e:Env}{h:Heap}(hI:I39_1 a0 lo s e h):W A c39_1 e h (P39_1 a0 t):=by
 show W A (.block 0 (.loop false b39_1)) e h _;rw[qp];refine qF hF 1 (by obtain⟨_,rfl,_⟩:=hI; rfl) (I39_1 a0) hI ?_ ?_
 ·rintro bY _ e h ⟨k8,rfl,h_7⟩ hlt hw o ho
  unfold F39_1_B at ho;obtain⟨eD,eT,ho⟩:=bS ho;obtain⟨w11a,w11b⟩:=qm eT;obtain⟨kT,kX,ho⟩:=bS ho;have lc:=s54 eD 0 8 kX;cases kT with
  |true=>
   rw[if_pos rfl]at ho;cases ho;simp only[simprocAttr,R0,b39_1, *];refine ai rfl (ei _ (ai rfl ?_));simp only[simprocAttr,R0, *]
  |false=>
   rw[if_neg wD]at ho;cases ho;simp only[simprocAttr,R0,b39_1, *];intro ht; subst ht;simp only[simprocAttr,RR,RB];exact ai rfl (qh (by simp only[simprocAttr,R0,qg,p39,Rs.ev,qd, *]))
 ·rintro bY _ e h ⟨k8,rfl,h_7⟩ hge t1 ho
  unfold F39_1_D at ho;cases ho;simp only[simprocAttr,R0,b39_1, *];intro ht; subst ht;refine ai rfl (ei _ (ai rfl ?_));simp only[simprocAttr,R0, *]
def I39_3(a0:qe)(dI:Int)(bQ:Int)(e:Env)(h:Heap):Prop:=
 ∃mO:Nat,h=⟨[(0,none)],mO⟩∧e.length=112∧e.at 1=eP a0∧e.at 4=iI dI∧e.at 5=iI bQ
def P39_3(a0:qe)(dI:Int)(t:(Unit)⊕Bool)(x:Ex)(e:Env)(h:Heap):Prop:=
 match t with
 | .inl _=> x= .normal∧∃mO:Nat,h=⟨[(0,none)],mO⟩∧e.length=112∧e.at 1=eP a0∧e.at 4=iI dI
 | .inr r=> x= .ret∧Fin p39 (enc r) .ret e h
theorem l39_3(a0:qe)(dI:Int){s:Int}{t:(Unit)⊕Bool}(hF:qY (F39_3_S a0 dI) s=some t){e:Env}{h:Heap}(hI:I39_3 a0 dI s e h):W A c39_3 e h (P39_3 a0 dI t):=by
 show W A (.block 4 (.loop false b39_3)) e h _;rw[qp];refine zW hF 1 (by obtain⟨_,rfl,_⟩:=hI; rfl) (I39_3 a0 dI) hI ?_
 ·rintro bQ e h ⟨mO,rfl,h_26⟩ o ho
  unfold F39_3_S at ho;obtain⟨eB,lS,ho⟩:=bS ho;obtain⟨nj,ax⟩:=qm lS;by_cases c31:bQ < (eB.length:Int)
  ·rw[if_pos c31]at ho
   by_cases c32:0 < dI
   ·rw[if_pos c32]at ho
    obtain⟨nT,oT,ho⟩:=bS ho;have ae:=qD oT;obtain⟨iF,oO,ho⟩:=bS ho;obtain⟨av,au⟩:=qm oO;obtain⟨fN,oK,ho⟩:=bS ho;obtain⟨nd,nc⟩:=qm oK;obtain⟨fY,rZ,ho⟩:=bS ho;obtain⟨w39a,w39b⟩:=qm rZ;obtain⟨rG,rX,ho⟩:=bS ho;have w41:=s80 a0.P iF fN fY rX;obtain⟨nS,mS,ho⟩:=bS ho;have w43:=s81 rG mS;by_cases c44:0≤nS
    ·rw[if_pos c44]at ho
     cases ho;simp only[simprocAttr,R0,b39_3, *];intro ht; subst ht;simp only[simprocAttr,RR,RB];exact ai rfl (qh (by simp only[simprocAttr,R0,qg,p39,Rs.ev,qd, *]))
    ·rw[if_neg c44]at ho
     obtain⟨r7,o0,ho⟩:=bS ho;have wx45:=qD o0;cases ho;simp only[simprocAttr,R0,b39_3, *];refine ai rfl (ei _ (ai rfl ?_));simp only[simprocAttr,R0, *]
   ·rw[if_neg c32]at ho
    cases ho;simp only[simprocAttr,R0,b39_3, *];intro ht; subst ht;simp only[simprocAttr,RR,RB];refine ai rfl (ei _ (ai rfl ?_));simp only[simprocAttr,R0, *]
  ·rw[if_neg c31]at ho
   cases ho;simp only[simprocAttr,R0,b39_3, *];intro ht; subst ht;simp only[simprocAttr,RR,RB];refine ai rfl (ei _ (ai rfl ?_));simp only[simprocAttr,R0, *]
def I39_2(a0:qe)(dI:Int)(s:Unit)(e:Env)(h:Heap):Prop:=
 ∃z7:Nat,h=⟨[(0,none)],z7⟩∧e.length=112∧e.at 1=eP a0∧e.at 4=iI dI
def P39_2(a0:qe)(t:(Unit)⊕Bool)(x:Ex)(e:Env)(h:Heap):Prop:=
 match t with
 | .inl _=> x= .normal∧∃z7:Nat,h=⟨[(0,none)],z7⟩∧e.length=112
 | .inr r=> x= .ret∧Fin p39 (enc r) .ret e h
theorem l39_2(a0:qe){lo:Int}{s:Unit}{t:(Unit)⊕Bool}(hF:forR lo (a0.M.length:Int) (F39_2_B a0) (F39_2_D a0) s=some t){e:Env}{h:Heap}(hI:I39_2 a0 lo s e h):W A c39_2 e h (P39_2 a0 t):=by
 show W A (.block 2 (.loop false b39_2)) e h _;rw[qp];refine qF hF 1 (by obtain⟨_,rfl,_⟩:=hI; rfl) (I39_2 a0) hI ?_ ?_
 ·rintro dI _ e h ⟨z7,rfl,h_15⟩ hlt hw o ho
  unfold F39_2_B at ho;obtain⟨pM,oW,ho⟩:=bS ho;obtain⟨f7,f0⟩:=qm oW;obtain⟨fF,fS,ho⟩:=bS ho;obtain⟨w21a,w21b⟩:=qm fS;obtain⟨fA,iQ,ho⟩:=bS ho;obtain⟨bk,bj⟩:=qm iQ;obtain⟨x24,lP,ho⟩:=bS ho;have w25:=s79 a0.P pM fF fA lP;cases x24 with
  |true=>
   rw[if_pos rfl]at ho;obtain⟨sX,oX,ho⟩:=bS ho;rcases sX with _|r47
   ·dsimp only at ho
    simp only[simprocAttr,R0,b39_2, *];refine W.mono (l39_3 a0 dI oX (ei _ (ai rfl ?_))) ?_
    ·simp only[simprocAttr,R0, *]
    rintro _ e _ ⟨rfl,mO,rfl,h_28⟩;cases ho;simp only[simprocAttr,R0, *];refine ai rfl (ei _ (ai rfl ?_));simp only[simprocAttr,R0, *]
   ·dsimp only at ho
    cases ho;simp only[simprocAttr,R0,b39_2, *];refine W.mono (l39_3 a0 dI oX (ei _ (ai rfl ?_))) ?_
    ·simp only[simprocAttr,R0, *]
    rintro _ e h ⟨rfl,hq⟩;simp only[simprocAttr,RR,RB];intro ht; subst ht;simp only[simprocAttr,RR,RB];exact ai rfl hq
  |false=>
   rw[if_neg wD]at ho;cases ho;simp only[simprocAttr,R0,b39_2, *];intro ht; subst ht;simp only[simprocAttr,RR,RB];exact ai rfl (qh (by simp only[simprocAttr,R0,qg,p39,Rs.ev,qd, *]))
 ·rintro dI _ e h ⟨z7,rfl,h_15⟩ hge t1 ho
  unfold F39_2_D at ho;cases ho;simp only[simprocAttr,R0,b39_2, *];intro ht; subst ht;refine ai rfl (ei _ (ai rfl ?_));simp only[simprocAttr,R0, *]
theorem s39(a0:qe){r:Bool}(hF:F39 a0=some r):ans A 39 [(eC a0)]=some (enc r):=by
 refine qB (f:=p39) rfl rfl rfl fun e hl he=>?_;have aA:=he 0 _ rfl;have hl_0:e.length=112:=hl;clear he hl;have h_0:=ai hl_0 aA;show W A b39 e ⟨[],0⟩ _;unfold F39 at hF;obtain⟨x1,bD,hF⟩:=bS hF;have w2:=s78 a0.P bD;cases x1 with
 |true=>
  rw[if_pos rfl]at hF;by_cases c3:(a0.D.length:Int) < 1
  ·rw[if_pos c3]at hF
   cases hF;simp only[simprocAttr,R0,b39, *];exact qh (by simp only[simprocAttr,R0,qg,p39,Rs.ev,qd, *])
  ·rw[if_neg c3]at hF
   by_cases c4:6 < (a0.D.length:Int)
   ·rw[if_pos c4]at hF
    cases hF;simp only[simprocAttr,R0,b39, *];exact qh (by simp only[simprocAttr,R0,qg,p39,Rs.ev,qd, *])
   ·rw[if_neg c4]at hF
    obtain⟨x5,dB,hF⟩:=bS hF;have mg:=qD dB;by_cases c6:(a0.M.length:Int)=x5
    ·rw[if_pos c6]at hF
     obtain⟨pt,fp,hF⟩:=bS hF;rcases pt with _|cu
     ·dsimp only at hF
      simp only[simprocAttr,R0,b39, *];refine W.mono (l39_1 a0 fp (ei _ (ai rfl ?_))) ?_
      ·simp only[simprocAttr,R0, *]
      rintro _ e _ ⟨rfl,k8,rfl,h_9⟩;obtain⟨pi,fm,hF⟩:=bS hF;rcases pi with _|r49
      ·dsimp only at hF
       simp only[simprocAttr,R0, *];refine W.mono (l39_2 a0 fm (ei _ (ai rfl ?_))) ?_
       ·simp only[simprocAttr,R0, *]
       rintro _ e _ ⟨rfl,z7,rfl,hl_17⟩;cases hF;simp only[simprocAttr,R0, *];exact qh (by simp only[simprocAttr,R0,qg,p39,Rs.ev,qd, *])
      ·dsimp only at hF
       cases hF;simp only[simprocAttr,R0, *];refine W.mono (l39_2 a0 fm (ei _ (ai rfl ?_))) ?_
       ·simp only[simprocAttr,R0, *]
       rintro _ e h ⟨rfl,hq⟩;simp only[simprocAttr,RR,RB];exact hq
     ·dsimp only at hF
      cases hF;simp only[simprocAttr,R0,b39, *];refine W.mono (l39_1 a0 fp (ei _ (ai rfl ?_))) ?_
      ·simp only[simprocAttr,R0, *]
      rintro _ e h ⟨rfl,hq⟩;simp only[simprocAttr,RR,RB];exact hq
    ·rw[if_neg c6]at hF
     cases hF;simp only[simprocAttr,R0,b39, *];exact qh (by simp only[simprocAttr,R0,qg,p39,Rs.ev,qd, *])
 |false=>
  rw[if_neg wD]at hF;cases hF;simp only[simprocAttr,R0,b39, *];exact qh (by simp only[simprocAttr,R0,qg,p39,Rs.ev,qd, *])
def F94(a0:L1):Option L1:=
 (app 8 ([]:L1) a0).bind fun l2=>
 some l2
theorem s94(a0:L1){r:L1}(hF:F94 a0=some r):ans A 94 [iL a0]=some (enc r):=by
 refine qB (f:=p94) rfl rfl rfl fun e hl he=>?_;have aA:=he 0 _ rfl;have hl_0:e.length=6:=hl;clear he hl;show W A b94 e ⟨[],0⟩ _;unfold F94 at hF;obtain⟨l2,tJ,hF⟩:=bS hF;have w1:=fun ents key uid clk he=> qA (α:=Int) (n:=0) (m:=a0.length) (ds:=List.map enc a0) tJ (by first|rfl|simp only[vG]) (by first|rfl|simp only[vG]) rfl ents key uid clk he;have w1l:=qO tJ;have hE:=wA hF; subst hE;simp only[simprocAttr, -Int.reduceNatCast',R0,b94,hl_0,aA,w1];exact qh (by simp only[simprocAttr, -Int.reduceNatCast',R0,qg,p94,Rs.ev,qd,hl_0,aA,w1,frzs (α:=Int) l2,qR (α:=Int) l2])
theorem t94(a0:L1){r:L1}(hF:F94 a0=some r):tans A 94 [1] [iL a0]=some (enc r):=by
 refine tans_of (f:=p94) rfl rfl rfl fun e hl he=>?_;have aA:=he 0 _ rfl;have hl_0:e.length=6:=hl;clear he hl;show W A b94 e ⟨[],0⟩ _;unfold F94 at hF;obtain⟨l2,tJ,hF⟩:=bS hF;have w1:=fun ents key uid clk he=> qA (α:=Int) (n:=0) (m:=a0.length) (ds:=List.map enc a0) tJ (by first|rfl|simp only[vG]) (by first|rfl|simp only[vG]) rfl ents key uid clk he;have w1l:=qO tJ;have hE:=wA hF; subst hE;simp only[simprocAttr, -Int.reduceNatCast',R0,b94,hl_0,aA,w1];exact tfin_ret (by simp only[simprocAttr, -Int.reduceNatCast',R0,qg,p94,Rs.ev,qd,hl_0,aA,w1,frzs (α:=Int) l2,qR (α:=Int) l2])
def F95_1_B(a0:aJ)(kW:Int)(aN:aJ):Option ((aJ)⊕(aJ)):=
 (getI a0 kW).bind fun x5=>
(F94 x5).bind fun x7=>
(app 24 aN [x7]).bind fun dh=>
some (.inl dh)
def F95_1_D(a0:aJ)(kW:Int)(aN:aJ):Option (aJ):=
 some aN
def F95(a0:aJ):Option aJ:=
 (forR 0 (a0.length:Int) (F95_1_B a0) (F95_1_D a0) ([]:aJ)).bind fun aM=>
 some aM
theorem d95(a0:aJ){r:aJ}(hF:F95 a0=some r):∃v h',res A 95 [iL a0] Heap.empty=some (v,h')∧∃K,Deep.rep h' v r K:=by
 refine xp (f:=p95) rfl rfl rfl fun e hl he=>?_;have aA:=he 0 _ rfl;have hl_0:e.length=21:=hl;clear he hl;show W A b95 e ⟨[],0⟩ _;unfold F95 at hF;obtain⟨aM,lT,hF⟩:=bS hF;have hE:=wA hF; subst hE;simp only[simprocAttr, -Int.reduceNatCast',R1,b95, *];show W A (.block 0 (.loop true b95_1)) _ _ _;rw[qp];refine qF lT _ rfl (fun i l e h=>∃u vs K,h.ents[0]? =some (u,some vs)∧reps h vs l K∧¬K 0∧e.length=21∧e.at 0=iL a0∧e.at 3=V.sl 0 u 0 l.length 1∧e.at 4=iI i) ?_ ?_ ?_
 ·refine⟨0,[],fun _=> False,rfl,fun _ x=> x,fun x=> x,?_⟩
  simp only[simprocAttr, -Int.reduceNatCast',R1, *]
 ·rintro i l e ⟨E,c⟩ ⟨u,vs,K,g1,g2,g3,hl_1,aG,bM,aQ⟩ hlt hw o ho
  unfold F95_1_B at ho;obtain⟨x5,dB,ho⟩:=bS ho;obtain⟨lH,lG⟩:=qm dB;obtain⟨x7,dQ,ho⟩:=bS ho;have w8:=t94 x5 dQ;obtain⟨dh,pB,ho⟩:=bS ho;obtain⟨q1,q2,rfl⟩:=app_w pB;have hE:=wA ho; subst hE;have hln:=g2.len;have hE0:0 < E.length:=gA g1;have w9:∀x y c',qS 1 24 (.sl 0 u 0 l.length 1) 1 [V.sl E.length c 0 x7.length 1] ⟨E++[x]++[y],c'⟩=_:=fun x y c'=> zj (E:=E++[x]++[y]) (vs:=vs) (by rw[gB (by simp),gB hE0]; exact g1) hln (by simpa using q1) (by simpa using q2);simp only[simprocAttr, -Int.reduceNatCast',R1,b95_1,qK,zm,qw, *];have r1:=xk (h:=⟨E,c⟩) (h1:=⟨E++[(c,some (x7.map enc))],c+1⟩) (h2:=⟨(E++[(c,some (x7.map enc))]++[(c+1,some [V.sl E.length c 0 x7.length 1])]).set 0 (c+1+1,some (vs++[V.sl E.length c 0 x7.length 1])),c+1+1+1⟩) g2
   (zY (l:=x7) (K:=fun k=> k=E.length) (qw _ _) fun k=> vY) (fun k q=> by show E.length≤k; omega) (fun k q=> gB q) (fun k p q=> qL (fun e=> by subst e; exact q.elim g3 (fun q=> by omega)) p) (by simp)
  refine ai rfl ⟨_,_,_,ql (by simp),r1,fun q=> q.elim g3 (fun q=> by omega),?_⟩;simp only[simprocAttr, -Int.reduceNatCast',R1,wM, *]
 ·rintro i l e ⟨E,c⟩ ⟨u,vs,K,g1,g2,g3,hl_1,aG,bM,aQ⟩ hge t1 ho
  unfold F95_1_D at ho;have hE:=wA ho; subst hE;simp only[simprocAttr, -Int.reduceNatCast',R1,b95_1, *];intro ht; subst ht;refine ai (fun _=> trivial) ⟨_,by simp only[simprocAttr, -Int.reduceNatCast',R1,qg,p95,Rs.ev, *],fun k=> k=0∨K k,.inr ⟨0,u,vs,K,rfl,g1,g2,g3,fun k=> vY⟩⟩
theorem x95(a0:aJ){r:aJ}(hF:F95 a0=some r):tans A 95 [1,1] [iL a0]=some (enc r):=ju (α:=aJ) (by decide) (d95 a0 hF)
def F55_1_B(a0:qe)(kW:Int)(s:L3×Int×L1):Option ((L3×Int×L1)⊕(L3×Int×L1)):=
 match s with
 |(bA,bU,bT)=>
  (getI a0.M kW).bind fun x7=>
  (F95 x7).bind fun x9=>
  (app 24 bA [x9]).bind fun sJ=>
  some (.inl (sJ,bU,bT))
def F55_1_D(a0:qe)(kW:Int)(s:L3×Int×L1):Option (L3×Int×L1):=
 match s with
 |(bA,bU,bT)=>
  some (bA,bU,bT)
def F55(a0:qe):Option qe:=
 (F94 a0.D).bind fun x1=>
 (forR 0 (a0.M.length:Int) (F55_1_B a0) (F55_1_D a0) ([],a0.P,x1)).bind fun pu=> match pu with
  |(cD,fU,fT)=>
   some ⟨fU,fT,cD⟩
theorem d55(x:qe){r:qe}(hF:F55 x=some r):∃v h',res A 55 [(eC x)] Heap.empty=some (v,h')∧∃m K,v=V.agg [iI r.P,iL r.D,m]∧Deep.rep h' m r.M K:=by
 refine xp (f:=p55) rfl rfl rfl fun e hl he=>?_;have aA:=he 0 _ rfl;have hl_0:e.length=31:=hl;clear he hl;show W A b55 e ⟨[],0⟩ _;unfold F55 at hF;obtain⟨x1,bD,hF⟩:=bS hF;have w1:=s94 x.D bD;obtain⟨pu,sD,hF⟩:=bS hF;simp only[simprocAttr,R0,b55, *];show W A (.block 0 (.loop true b55_1)) _ _ _;rw[qp];refine qF sD _ rfl (fun i s e h=> s.2=(x.P,x1)∧∃u vs K,h.ents[1]? =some (1,some [iI 0,V.nils,V.nils])∧h.ents[2]? =some (u,some vs)∧h.ents[3]? =some (3,some [iI x.P,iL x1,V.sl 2 u 0 s.1.length 1])∧reps h vs s.1 K∧(∀k,K k→4≤k)∧e.length=31∧e.at 1=eP x∧e.at 2=V.ptr 1 1 0∧e.at 3=V.ptr 3 3 0∧e.at 4=iI i) ?_ ?_ ?_
 ·refine⟨rfl,2,[],fun _=> False,rfl,rfl,rfl,fun _ x=> x,fun _ x=> x.elim,?_⟩
  simp only[simprocAttr,R0, *]
 ·rintro i ⟨l,q⟩ e ⟨E,c⟩ ⟨rfl,u,vs,K,g1,g2,g3,g4,g5,h_1⟩ hlt hw o ho
  unfold F55_1_B at ho;simp only at ho g3;obtain⟨x5,dB,ho⟩:=bS ho;obtain⟨lH,lG⟩:=qm dB;obtain⟨x7,dQ,ho⟩:=bS ho;have w8:=x95 x5 dQ;obtain⟨dh,pB,ho⟩:=bS ho;obtain⟨q1,q2,rfl⟩:=app_w pB;cases ho;have hln:=g4.len;have hE0:3 < E.length:=gA g3;obtain⟨v,⟨E1,c1⟩,t1,t2,t3,t4⟩:=thaw_deep (α:=aJ) (by decide) x7 ⟨E,c⟩;have t1':thaw 16 [1,1] (iL x7) ⟨E,c⟩=some (v,⟨E1,c1⟩):=t1;simp only at t2 t3 t4 g1 g2 g3;have m1:=(t4 1 (by omega)).trans g1;have m2:=(t4 2 (by omega)).trans g2;have m3:=(t4 3 (by omega)).trans g3;have n1:∀y z,(((E1++[y]).set 2 z))[1]? =_:=fun y z=>(qL (by decide) (by omega)).trans m1;have n3:∀y z,(((E1++[y]).set 2 z))[3]? =_:=fun y z=>(qL (by decide) (by omega)).trans m3;obtain⟨v1,v2⟩:=rep_one t2;have w9:∀y c',qS 1 24 (.sl 2 u 0 l.length 1) 1 [v] ⟨E1++[y],c'⟩=_:=fun y c'=> zj (E:=E1++[y]) (vs:=vs) (by rw[gB (by omega)]; exact m2) hln (by simpa using q1) (by simpa using q2);simp only[simprocAttr,R0,b55_1,qK,t1',v1,v2,m1,m2,m3,qw,n1,n3, *];have r1:=xk (h:=⟨E,c⟩) (h1:=⟨E1,c1⟩) (h2:=⟨((E1++[(c1,some [v])]).set 2 (c1+1,some (vs++[v]))).set 3 (3,some [iI x.P,iL x1,V.sl 2 (c1+1) 0 (l.length+1) 1]),c1+1+1⟩) (K:=K) g4
   t2 (fun k q=> q.1) t4 (fun k p q=> by
    have hk:4≤k:=q.elim (g5 _) (fun q=> by omega);rw[qi (by omega)];exact qL (by omega) p) t3
  refine ai rfl (ai rfl ⟨c1+1,vs++[v],fun k=> K k∨(E.length≤k∧k < E1.length),?_,?_,?_,r1,fun k q=> q.elim (g5 _) (fun q=> by omega),?_⟩)
  rotate_left
  ·exact(qi (by decide)).trans (ql (by simp; omega))
  ·simp only[wM,vJ,vG,wX]
   exact ql (by simp; omega)
  ·simp only[simprocAttr,R0, *]
  ·exact(qi (by decide)).trans (n1 _ _)
 ·rintro i ⟨l,q⟩ e ⟨E,c⟩ ⟨rfl,u,vs,K,g1,g2,g3,g4,g5,h_1⟩ hge t1 ho
  unfold F55_1_D at ho;cases ho;simp only at hF g1 g2 g3;simp only[simprocAttr,R0,b55_1, *];intro ht; subst ht;cases hF;have hE0:3 < E.length:=gA g3;refine ai (fun _=> trivial) ⟨_,by simp only[simprocAttr,R0,qg,p55,Rs.ev,ql (show 1 < E.length by omega), *]; rfl,_,_,rfl,rep_at (α:=aJ) (K:=K) ?_ (g4.frame fun k q=> qi (by have:=g5 k q; omega)) (fun q=> by have:=g5 _ q; omega)⟩;exact(qi (by decide)).trans g2
theorem fz55(x:qe){r:qe}(hF:F55 x=some r):ans A 55 [(eC x)]=some (enc r):=by
 obtain⟨v,h',h1,m,K,rfl,h2⟩:=d55 x hF;exact ans_agg h1 h2
theorem s55(x:qe){r:qe}(hF:F55 x=some r):ans A 55 [(eC x)]=some (enc r):=fz55 x hF
theorem x55(x:qe){r:qe}(hF:F55 x=some r):tans A 55 [1,1,1] [(eC x)]=some (V.agg [iI r.P,V.iptr [iL r.D],iL r.M]):=by
 obtain⟨v,h',h1,m,K,rfl,h2⟩:=d55 x hF;exact tans_agg h1 h2
def F23_2_S(a0:qe)(a1:Int)(bA:aJ)(bU:Int)(bT:L1)(cJ:L3)(aE:Int)(s:L1×Int):Option ((L1×Int)⊕(L1)):=
 match s with
 |(oA,pP)=>
  (getI a0.D aE).bind fun fV=>
  if pP < fV then
   (app 8 oA [a1]).bind fun sZ=>
   (chk (pP+1)).bind fun fF=>
   some (.inl (sZ,fF))
  else
   some (.inr oA)
def F23_1_B(a0:qe)(a1:Int)(aE:Int)(s:aJ×Int×L1×L3):Option ((aJ×Int×L1×L3)⊕(aJ×Int×L1×L3)):=
 match s with
 |(bA,bU,bT,cJ)=>
  (qY (F23_2_S a0 a1 bA bU bT cJ aE) ([],0)).bind fun iZ=>
  (app 24 bA [iZ]).bind fun rC=>
  some (.inl (rC,bU,bT,cJ))
def F23_1_D(a0:qe)(a1:Int)(aE:Int)(s:aJ×Int×L1×L3):Option (aJ×Int×L1×L3):=
 match s with
 |(bA,bU,bT,cJ)=>
  some (bA,bU,bT,cJ)
def F23(a0:qe)(a1:Int):Option (T2 qc Int):=
 (F39 a0).bind fun x1=>
 if x1=true then
  (F54 a1 0 5).bind fun x3=>
  if x3=true then
   (F55 a0).bind fun x5=>
   (forR 0 (a0.D.length:Int) (F23_1_B a0 a1) (F23_1_D a0 a1) ([],x5.P,x5.D,x5.M)).bind fun t24=> match t24 with
    |(cD,fU,fT,lC)=>
     some ⟨⟨⟨fU,fT,lC⟩,cD⟩,0⟩
  else
   some ⟨⟨⟨0,[],[]⟩,[]⟩,2⟩
 else
  some ⟨⟨⟨0,[],[]⟩,[]⟩,1⟩
def I23_2(a0:qe)(a1:Int)(bA:aJ)(bU:Int)(bT:L1)(cJ:L3)(aE:Int)(u8:Nat)(s:L1×Int)(e:Env)(h:Heap):Prop:=
 match s with
 |(oA,pP)=>
  ∃lI fW:Nat,h=⟨[(0,none),(1,some [iI 0,V.nils,V.nils,V.nils]),(u8,some (bA.map enc)),(3,some [iI bU,iL bT,iL cJ,V.sl 2 u8 0 bA.length 1]),(lI,some (oA.map enc))],fW⟩∧e.length=52∧e.at 1=iI a1∧e.at 2=eP a0∧e.at 4=V.ptr 1 1 0∧e.at 6=V.ptr 3 3 0∧e.at 7=iI aE∧e.at 8=V.sl 4 lI 0 oA.length 1∧e.at 9=iI pP
def P23_2(a0:qe)(a1:Int)(bA:aJ)(bU:Int)(bT:L1)(cJ:L3)(aE:Int)(u8:Nat)(iZ:L1)(x:Ex)(e:Env)(h:Heap):Prop:=
 x= .normal∧∃lI fW:Nat,h=⟨[(0,none),(1,some [iI 0,V.nils,V.nils,V.nils]),(u8,some (bA.map enc)),(3,some [iI bU,iL bT,iL cJ,V.sl 2 u8 0 bA.length 1]),(lI,some (iZ.map enc))],fW⟩∧e.length=52∧e.at 1=iI a1∧e.at 2=eP a0∧e.at 4=V.ptr 1 1 0∧e.at 6=V.ptr 3 3 0∧e.at 7=iI aE∧e.at 8=V.sl 4 lI 0 iZ.length 1
theorem l23_2(a0:qe)(a1:Int)(bA:aJ)(bU:Int)(bT:L1)(cJ:L3)(aE:Int)(u8:Nat){s:L1×Int}{t:L1}(hF:qY (F23_2_S a0 a1 bA bU bT cJ aE) s=some t){e:Env}{h:Heap}(hI:I23_2 a0 a1 bA bU bT cJ aE u8 s e h):W A c23_2 e h (P23_2 a0 a1 bA bU bT cJ aE u8 t):=by
 show W A (.block 3 (.loop false b23_2)) e h _;rw[qp];refine zW hF 5 (by rcases s with⟨_,_⟩; obtain⟨_,_,rfl,_⟩:=hI; rfl) (I23_2 a0 a1 bA bU bT cJ aE u8) hI ?_
 ·rintro⟨oA,pP⟩ e h ⟨lI,fW,rfl,h_11⟩ o ho
  unfold F23_2_S at ho;dsimp only at ho;obtain⟨fV,iN,ho⟩:=bS ho;obtain⟨nX,nA⟩:=qm iN;by_cases ik:pP < fV
  ·rw[if_pos ik]at ho
   obtain⟨sZ,pV,ho⟩:=bS ho;have pZ:=fun a b c d e=> qA (α:=Int) (n:=oA.length) (m:=1) (ds:=[iI a1]) pV (by first|rfl|simp) (by first|rfl|simp) rfl a b c d e;have w18l:=qO pV;obtain⟨fF,fS,ho⟩:=bS ho;have sN:=qD fS;cases ho;simp only[simprocAttr,R0,b23_2, *];refine ai rfl (ei _ (ei _ (ai rfl ?_)));simp only[simprocAttr,R0, *]
  ·rw[if_neg ik]at ho
   cases ho;simp only[simprocAttr,R0,b23_2, *];intro ht; subst ht;simp only[simprocAttr,RR,RB];refine ai rfl (ei _ (ei _ (ai rfl ?_)));simp only[simprocAttr,R0, *]
def I23_1(a0:qe)(a1:Int)(aE:Int)(s:aJ×Int×L1×L3)(e:Env)(h:Heap):Prop:=
 match s with
 |(bA,bU,bT,cJ)=>
  ∃u8 k9:Nat,h=⟨[(0,none),(1,some [iI 0,V.nils,V.nils,V.nils]),(u8,some (bA.map enc)),(3,some [iI bU,iL bT,iL cJ,V.sl 2 u8 0 bA.length 1])],k9⟩∧e.length=52∧e.at 1=iI a1∧e.at 2=eP a0∧e.at 4=V.ptr 1 1 0∧e.at 6=V.ptr 3 3 0∧e.at 7=iI aE
def P23_1(a0:qe)(a1:Int)(t:aJ×Int×L1×L3)(x:Ex)(e:Env)(h:Heap):Prop:=
 match t with
 |(cD,fU,fT,lC)=>
  x= .normal∧∃u8 k9:Nat,h=⟨[(0,none),(1,some [iI 0,V.nils,V.nils,V.nils]),(u8,some (cD.map enc)),(3,some [iI fU,iL fT,iL lC,V.sl 2 u8 0 cD.length 1])],k9⟩∧e.length=52∧e.at 4=V.ptr 1 1 0∧e.at 6=V.ptr 3 3 0
theorem l23_1(a0:qe)(a1:Int){lo:Int}{s:aJ×Int×L1×L3}{t:aJ×Int×L1×L3}(hF:forR lo (a0.D.length:Int) (F23_1_B a0 a1) (F23_1_D a0 a1) s=some t){e:Env}{h:Heap}(hI:I23_1 a0 a1 lo s e h):W A c23_1 e h (P23_1 a0 a1 t):=by
 show W A (.block 1 (.loop false b23_1)) e h _;rw[qp];refine qF hF 4 (by rcases s with⟨_,_,_,_⟩; obtain⟨_,_,rfl,_⟩:=hI; rfl) (I23_1 a0 a1) hI ?_ ?_
 ·rintro aE ⟨bA,bU,bT,cJ⟩ e h ⟨u8,k9,rfl,h_7⟩ hlt hw o ho
  unfold F23_1_B at ho;dsimp only at ho;obtain⟨iZ,oY,ho⟩:=bS ho;simp only[simprocAttr,R0,b23_1,h_7,eq_true hlt,hw];refine W.mono (l23_2 a0 a1 bA bU bT cJ aE u8 oY (ei _ (ei _ (ai rfl ?_)))) ?_
  ·simp only[simprocAttr,R0,h_7,eq_true hlt,hw]
  rintro _ e _ ⟨rfl,lI,fW,rfl,h_14⟩;obtain⟨rC,lU,ho⟩:=bS ho;have e9:=fun a b c d e=> qA (α:=L1) (n:=bA.length) (m:=1) (ds:=[iL iZ]) lU (by first|rfl|simp) (by first|rfl|simp) rfl a b c d e;have bl:=qO lU;cases ho;simp only[simprocAttr,R0,h_14,eq_true hlt,hw,qR (α:=Int) iZ,e9];refine ai rfl (ei _ (ei _ (ai rfl ?_)));simp only[simprocAttr,R0,h_14,eq_true hlt,hw,qR (α:=Int) iZ,e9]
 ·rintro aE ⟨bA,bU,bT,cJ⟩ e h ⟨u8,k9,rfl,h_7⟩ hge t1 ho
  unfold F23_1_D at ho;dsimp only at ho;cases ho;simp only[simprocAttr,R0,b23_1,h_7,eq_false hge];intro ht; subst ht;refine ai rfl (ei _ (ei _ (ai rfl ?_)));simp only[simprocAttr,R0,h_7,eq_false hge]
theorem s23(a0:qe)(a1:Int){r:T2 qc Int}(hF:F23 a0 a1=some r):ans A 23 [(eC a0),iI a1]=some (EncR.enc r):=by
 refine qB (f:=p23) rfl rfl rfl fun e hl he=>?_;have aA:=he 0 _ rfl;have aB:=he 1 _ rfl;have hl_0:e.length=52:=hl;clear he hl;have h_0:=ai hl_0 (ai aA aB);show W A b23 e ⟨[],0⟩ _;unfold F23 at hF;obtain⟨x1,bD,hF⟩:=bS hF;have w2:=s39 a0 bD;cases x1 with
 |true=>
  rw[if_pos rfl]at hF;obtain⟨x3,dN,hF⟩:=bS hF;have w4:=s54 a1 0 5 dN;cases x3 with
  |true=>
   rw[if_pos rfl]at hF;obtain⟨x5,dB,hF⟩:=bS hF;have w6:=s55 a0 dB;obtain⟨⟨cD,fU,fT,lC⟩,p8,hF⟩:=bS hF;dsimp only at hF;simp only[simprocAttr,R0,b23, *];refine W.mono (l23_1 a0 a1 p8 (ei _ (ei _ (ai rfl ?_)))) ?_
   ·simp only[simprocAttr,R0, *]
   rintro _ e _ ⟨rfl,u8,k9,rfl,h_10⟩;cases hF;simp only[simprocAttr,R0, *];exact qh (by simp only[simprocAttr,R0,qg,p23,Rs.ev,qd,frzs (α:=L1) cD,qR (α:=L1) cD, *])
  |false=>
   rw[if_neg wD]at hF;cases hF;simp only[simprocAttr,R0,b23, *];exact qh (by simp only[simprocAttr,R0,qg,p23,Rs.ev,qd, *])
 |false=>
  rw[if_neg wD]at hF;cases hF;simp only[simprocAttr,R0,b23, *];exact qh (by simp only[simprocAttr,R0,qg,p23,Rs.ev,qd, *])
def F56(a0:Int)(a1:Int)(a2:Int):Option Bool:=
 if a1≤a0 then
  some (decide (a0≤a2))
 else
  some false
theorem s56(a0:Int)(a1:Int)(a2:Int){r:Bool}(hF:F56 a0 a1 a2=some r):ans A 56 [iI a0,iI a1,iI a2]=some (enc r):=by
 refine qB (f:=p56) rfl rfl rfl fun e hl he=>?_;have aA:=he 0 _ rfl;have aB:=he 1 _ rfl;have aU:=he 2 _ rfl;have hl_0:e.length=15:=hl;clear he hl;have h_0:=ai hl_0 (ai aA (ai aB aU));show W A b56 e ⟨[],0⟩ _;unfold F56 at hF;by_cases c1:a1≤a0
 ·rw[if_pos c1]at hF
  cases hF;simp only[simprocAttr,R0,b56, *];exact qh (by simp only[simprocAttr,R0,qg,p56,Rs.ev,qd, *])
 ·rw[if_neg c1]at hF
  cases hF;simp only[simprocAttr,R0,b56, *];exact qh (by simp only[simprocAttr,R0,qg,p56,Rs.ev,qd, *])
def F67(a0:Int):Option Bool:=
 if a0=2 then
  some true
 else
  if a0=3 then
   some true
  else
   if a0=5 then
    some true
   else
    some (decide (a0=7))
theorem s67(a0:Int){r:Bool}(hF:F67 a0=some r):ans A 67 [iI a0]=some (enc r):=by
 refine qB (f:=p67) rfl rfl rfl fun e hl he=>?_;have aA:=he 0 _ rfl;have hl_0:e.length=17:=hl;clear he hl;have h_0:=ai hl_0 aA;show W A b67 e ⟨[],0⟩ _;unfold F67 at hF;by_cases c1:a0=2
 ·rw[if_pos c1]at hF
  cases hF;simp only[simprocAttr,R0,b67, *];exact qh (by simp only[simprocAttr,R0,qg,p67,Rs.ev,qd, *])
 ·rw[if_neg c1]at hF
  by_cases c2:a0=3
  ·rw[if_pos c2]at hF
   cases hF;simp only[simprocAttr,R0,b67, *];exact qh (by simp only[simprocAttr,R0,qg,p67,Rs.ev,qd, *])
  ·rw[if_neg c2]at hF
   by_cases c3:a0=5
   ·rw[if_pos c3]at hF
    cases hF;simp only[simprocAttr,R0,b67, *];exact qh (by simp only[simprocAttr,R0,qg,p67,Rs.ev,qd, *])
   ·rw[if_neg c3]at hF
    cases hF;simp only[simprocAttr,R0,b67, *];exact qh (by simp only[simprocAttr,R0,qg,p67,Rs.ev,qd, *])
def F115_1_B(a0:L1)(f1:Int→Option Bool)(aS:Int)(s:Unit):Option ((Unit)⊕((Unit)⊕Int)):=
 (getI a0 aS).bind fun x4=>
(f1 x4).bind fun x6=>
if x6=true then
 some (.inr (.inr aS))
else
 some (.inl ())
def F115_1_D(a0:L1)(f1:Int→Option Bool)(aS:Int)(s:Unit):Option ((Unit)⊕Int):=
 some (.inl ())
def F115(a0:L1)(f1:Int→Option Bool):Option Int:=
 (forR 0 (a0.length:Int) (F115_1_B a0 f1) (F115_1_D a0 f1) ()).bind fun t8=> match t8 with
  | .inl _=>
   some (-1)
  | .inr r9=> some r9
def I115_1(a0:L1)(f1:Int→Option Bool)(fB:V)(aS:Int)(s:Unit)(e:Env)(h:Heap):Prop:=
 ∃k2:Nat,h=⟨[],k2⟩∧e.length=19∧e.at 0=iL a0∧e.at 1=fB∧e.at 7=iI (a0.length:Int)∧e.at 8=iI aS
def P115_1(a0:L1)(f1:Int→Option Bool)(fB:V)(t:(Unit)⊕Int)(x:Ex)(e:Env)(h:Heap):Prop:=
 match t with
 | .inl _=> x= .normal∧∃k2:Nat,h=⟨[],k2⟩∧e.length=19
 | .inr r=> x= .ret∧Fin p115 (enc r) .ret e h
theorem l115_1(a0:L1)(f1:Int→Option Bool)(fB:V)(hf1:Clo1 A fB f1){lo:Int}{s:Unit}{t:(Unit)⊕Int}(hF:forR lo (a0.length:Int) (F115_1_B a0 f1) (F115_1_D a0 f1) s=some t){e:Env}{h:Heap}(hI:I115_1 a0 f1 fB lo s e h):W A c115_1 e h (P115_1 a0 f1 fB t):=by
 obtain⟨g_f1,fs_f1,cs_f1,hv_f1,hc_f1⟩:=id hf1;show W A (.block 0 (.loop false b115_1)) e h _;rw[qp];refine qF hF 0 (by obtain⟨_,rfl,_⟩:=hI; rfl) (I115_1 a0 f1 fB) hI ?_ ?_
 ·rintro aS _ e h ⟨k2,rfl,h_1⟩ hlt hw o ho
  unfold F115_1_B at ho;obtain⟨x4,fM,ho⟩:=bS ho;obtain⟨sS,sR⟩:=qm fM;obtain⟨x6,nJ,ho⟩:=bS ho;have w7a:∀h,mapO (frz h 16) (fs_f1++[iI x4]++cs_f1)=some (fs_f1++[iI x4]++cs_f1):=fun h=> hc_f1.zf x4 h;have w7b:List.all (fs_f1++[iI x4]++cs_f1) (qv 16)=true:=hc_f1.zr x4;have w7c:ans A g_f1 (fs_f1++[iI x4]++cs_f1)=some (V.bool x6):=hc_f1.ka x4 _ nJ;cases x6 with
  |true=>
   rw[if_pos rfl]at ho;cases ho;simp only[simprocAttr,R0,b115_1, *];intro ht; subst ht;simp only[simprocAttr,RR,RB];exact ai rfl (qh (by simp only[simprocAttr,R0,qg,p115,Rs.ev,qd, *]))
  |false=>
   rw[if_neg wD]at ho;cases ho;simp only[simprocAttr,R0,b115_1, *];refine ai rfl (ei _ (ai rfl ?_));simp only[simprocAttr,R0, *]
 ·rintro aS _ e h ⟨k2,rfl,h_1⟩ hge t1 ho
  unfold F115_1_D at ho;cases ho;simp only[simprocAttr,R0,b115_1, *];intro ht; subst ht;refine ai rfl (ei _ (ai rfl ?_));simp only[simprocAttr,R0, *]
theorem s115(a0:L1)(f1:Int→Option Bool){fB:V}(hf1:Clo1 A fB f1){r:Int}(hF:F115 a0 f1=some r):ans A 115 [iL a0,fB]=some (enc r):=by
 refine qB (f:=p115) rfl rfl rfl fun e hl he=>?_;have aA:=he 0 _ rfl;have aB:=he 1 _ rfl;obtain⟨g_f1,fs_f1,cs_f1,hv_f1,hc_f1⟩:=id hf1;have hl_0:e.length=19:=hl;clear he hl;have h_0:=ai hl_0 (ai aA aB);show W A b115 e ⟨[],0⟩ _;unfold F115 at hF;obtain⟨t8,fg,hF⟩:=bS hF;rcases t8 with _|r9
 ·dsimp only at hF
  simp only[simprocAttr,R0,b115, *];refine W.mono (l115_1 a0 f1 fB hf1 fg (ei _ (ai rfl ?_))) ?_
  ·simp only[simprocAttr,R0, *]
  rintro _ e _ ⟨rfl,k2,rfl,hl_3⟩;cases hF;simp only[simprocAttr,R0, *];exact qh (by simp only[simprocAttr,R0,qg,p115,Rs.ev,qd, *])
 ·dsimp only at hF
  cases hF;simp only[simprocAttr,R0,b115, *];refine W.mono (l115_1 a0 f1 fB hf1 fg (ei _ (ai rfl ?_))) ?_
  ·simp only[simprocAttr,R0, *]
  rintro _ e h ⟨rfl,hq⟩;simp only[simprocAttr,RR,RB];exact hq
def F82(a0:L1)(f1:Int→Option Bool):Option Bool:=
 (F115 a0 f1).bind fun x1=>
 some (decide (0≤x1))
theorem s82(a0:L1)(f1:Int→Option Bool){fB:V}(hf1:Clo1 A fB f1){r:Bool}(hF:F82 a0 f1=some r):ans A 82 [iL a0,fB]=some (enc r):=by
 refine qB (f:=p82) rfl rfl rfl fun e hl he=>?_;have aA:=he 0 _ rfl;have aB:=he 1 _ rfl;obtain⟨g_f1,fs_f1,cs_f1,hv_f1,hc_f1⟩:=id hf1;have hl_0:e.length=9:=hl;clear he hl;show W A b82 e ⟨[],0⟩ _;unfold F82 at hF;obtain⟨x1,bD,hF⟩:=bS hF;have w2:ans A 115 [iL a0,fB]=some (iI x1):=s115 a0 f1 hf1 bD;cases hF;simp only[simprocAttr,R0,b82,hl_0,aA,aB,hf1.fz,hf1.rl,w2];exact qh (by simp only[simprocAttr,R0,qg,p82,Rs.ev,qd,hl_0,aA,aB,hf1.fz,hf1.rl,w2])
def F73(a0:L1):Option Int:=
 some (a0.length:Int)
theorem s73(a0:L1){r:Int}(hF:F73 a0=some r):ans A 73 [iL a0]=some (enc r):=by
 refine qB (f:=p73) rfl rfl rfl fun e hl he=>?_;have aA:=he 0 _ rfl;have hl_0:e.length=5:=hl;clear he hl;show W A b73 e ⟨[],0⟩ _;unfold F73 at hF;cases hF;simp only[simprocAttr,R0,b73, *];exact qh (by simp only[simprocAttr,R0,qg,p73,Rs.ev,qd, *])
def F86(a0:qe):Option Int:=
 (chk ((a0.D.length:Int) - 1)).bind fun x3=>
 some x3
theorem s86(a0:qe){r:Int}(hF:F86 a0=some r):ans A 86 [(eC a0)]=some (enc r):=by
 refine qB (f:=p86) rfl rfl rfl fun e hl he=>?_;have aA:=he 0 _ rfl;have hl_0:e.length=7:=hl;clear he hl;show W A b86 e ⟨[],0⟩ _;unfold F86 at hF;have w2:=s73 a0.D rfl;obtain⟨x3,dN,hF⟩:=bS hF;have mh:=qD dN;cases hF;simp only[simprocAttr,R0,b86, *];exact qh (by simp only[simprocAttr,R0,qg,p86,Rs.ev,qd, *])
def F87(a0:L3):Option Int:=
 some (a0.length:Int)
theorem s87(a0:L3){r:Int}(hF:F87 a0=some r):ans A 87 [iL a0]=some (enc r):=by
 refine qB (f:=p87) rfl rfl rfl fun e hl he=>?_;have aA:=he 0 _ rfl;have hl_0:e.length=5:=hl;clear he hl;show W A b87 e ⟨[],0⟩ _;unfold F87 at hF;cases hF;simp only[simprocAttr,R0,b87, *];exact qh (by simp only[simprocAttr,R0,qg,p87,Rs.ev,qd, *])
def F88(a0:Int):Option Bool:=
 (F56 a0 0 8).bind fun x1=>
 some (!x1)
theorem s88(a0:Int){r:Bool}(hF:F88 a0=some r):ans A 88 [iI a0]=some (enc r):=by
 refine qB (f:=p88) rfl rfl rfl fun e hl he=>?_;have aA:=he 0 _ rfl;have hl_0:e.length=6:=hl;clear he hl;show W A b88 e ⟨[],0⟩ _;unfold F88 at hF;obtain⟨x1,bD,hF⟩:=bS hF;have w2:=s56 a0 0 8 bD;cases hF;simp only[simprocAttr,R0,b88, *];exact qh (by simp only[simprocAttr,R0,qg,p88,Rs.ev,qd, *])
def F89(a0:aJ):Option Int:=
 some (a0.length:Int)
theorem s89(a0:aJ){r:Int}(hF:F89 a0=some r):ans A 89 [iL a0]=some (enc r):=by
 refine qB (f:=p89) rfl rfl rfl fun e hl he=>?_;have aA:=he 0 _ rfl;have hl_0:e.length=5:=hl;clear he hl;show W A b89 e ⟨[],0⟩ _;unfold F89 at hF;cases hF;simp only[simprocAttr,R0,b89, *];exact qh (by simp only[simprocAttr,R0,qg,p89,Rs.ev,qd, *])
def F130(a0:Int)(d0:Int):Option Bool:=
 (chk (d0 - 1)).bind fun x1=>
 (F56 a0 0 x1).bind fun x2=>
 some (!x2)
theorem s130(a0:Int)(d0:Int){r:Bool}(hF:F130 a0 d0=some r):ans A 130 [iI a0,V.iptr [iI d0]]=some (enc r):=by
 refine qB (f:=p130) rfl rfl rfl fun e hl he=>?_;have aA:=he 0 _ rfl;have aB:=he 1 _ rfl;have hl_0:e.length=9:=hl;clear he hl;show W A b130 e ⟨[],0⟩ _;unfold F130 at hF;obtain⟨x1,bD,hF⟩:=bS hF;have sQ:=qD bD;obtain⟨x2,iS,hF⟩:=bS hF;have w3:=s56 a0 0 x1 iS;cases hF;simp only[simprocAttr,R0,b130, *];exact qh (by simp only[simprocAttr,R0,qg,p130,Rs.ev,qd, *])
def F129(a0:Int)(a1:Int)(a2:L1):Option Bool:=
 if(a2.length:Int)=a1 then
  (F82 a2 (fun x=> F130 x a0)).bind fun x4=>
  some (!x4)
 else
  some false
theorem s129(a0:Int)(a1:Int)(a2:L1){r:Bool}(hF:F129 a0 a1 a2=some r):ans A 129 [iI a0,iI a1,iL a2]=some (enc r):=by
 refine qB (f:=p129) rfl rfl rfl fun e hl he=>?_;have aA:=he 0 _ rfl;have aB:=he 1 _ rfl;have aU:=he 2 _ rfl;have hl_0:e.length=17:=hl;clear he hl;have h_0:=ai hl_0 (ai aA (ai aB aU));show W A b129 e ⟨[],0⟩ _;unfold F129 at hF;have w2:ans A 73 [iL a2]=some (iI (a2.length:Int)):=s73 a2 rfl;by_cases c3:(a2.length:Int)=a1
 ·rw[if_pos c3]at hF
  obtain⟨x4,fM,hF⟩:=bS hF;have w5:ans A 82 [iL a2,V.fn 130 [] [V.iptr [iI a0]]]=some (V.bool x4):=s82 a2 (fun x=> F130 x a0) (Clo1.of (by intro h f; simp only[RZ,mapO]) (by intro h f; simp only[RZ,mapO]) (by intro f; simp only[RZ,RB]) (by intro f; simp only[RZ,RB]) (fun x _ hr=> s130 x a0 hr)) fM;cases hF;simp only[simprocAttr,R0,b129, *];exact qh (by simp only[simprocAttr,R0,qg,p129,Rs.ev,qd, *])
 ·rw[if_neg c3]at hF
  cases hF;simp only[simprocAttr,R0,b129, *];exact qh (by simp only[simprocAttr,R0,qg,p129,Rs.ev,qd, *])
def F116(a0:L1)(d0:Int)(d1:Int):Option Bool:=
 (F129 d0 d1 a0).bind fun x1=>
 some (!x1)
theorem s116(a0:L1)(d0:Int)(d1:Int){r:Bool}(hF:F116 a0 d0 d1=some r):ans A 116 [iL a0,V.iptr [iI d0],V.iptr [iI d1]]=some (enc r):=by
 refine qB (f:=p116) rfl rfl rfl fun e hl he=>?_;have aA:=he 0 _ rfl;have aB:=he 1 _ rfl;have aU:=he 2 _ rfl;have hl_0:e.length=10:=hl;clear he hl;show W A b116 e ⟨[],0⟩ _;unfold F116 at hF;obtain⟨x1,bD,hF⟩:=bS hF;have w2:=s129 d0 d1 a0 bD;cases hF;simp only[simprocAttr,R0,b116, *];exact qh (by simp only[simprocAttr,R0,qg,p116,Rs.ev,qd, *])
def kK(a0:aJ)(f1:L1→Option Bool)(aS:Int)(s:Unit):Option ((Unit)⊕((Unit)⊕Int)):=
 (getI a0 aS).bind fun x4=>
(f1 x4).bind fun x6=>
if x6=true then
 some (.inr (.inr aS))
else
 some (.inl ())
def F128_1_D(a0:aJ)(f1:L1→Option Bool)(aS:Int)(s:Unit):Option ((Unit)⊕Int):=
 some (.inl ())
def F128(a0:aJ)(f1:L1→Option Bool):Option Int:=
 (forR 0 (a0.length:Int) (kK a0 f1) (F128_1_D a0 f1) ()).bind fun t8=> match t8 with
  | .inl _=>
   some (-1)
  | .inr r9=> some r9
def I128_1(a0:aJ)(f1:L1→Option Bool)(fB:V)(aS:Int)(s:Unit)(e:Env)(h:Heap):Prop:=
 ∃k2:Nat,h=⟨[],k2⟩∧e.length=19∧e.at 0=iL a0∧e.at 1=fB∧e.at 7=iI (a0.length:Int)∧e.at 8=iI aS
def P128_1(a0:aJ)(f1:L1→Option Bool)(fB:V)(t:(Unit)⊕Int)(x:Ex)(e:Env)(h:Heap):Prop:=
 match t with
 | .inl _=> x= .normal∧∃k2:Nat,h=⟨[],k2⟩∧e.length=19
 | .inr r=> x= .ret∧Fin p128 (enc r) .ret e h
theorem l128_1(a0:aJ)(f1:L1→Option Bool)(fB:V)(hf1:Clo1 A fB f1){lo:Int}{s:Unit}{t:(Unit)⊕Int}(hF:forR lo (a0.length:Int) (kK a0 f1) (F128_1_D a0 f1) s=some t){e:Env}{h:Heap}(hI:I128_1 a0 f1 fB lo s e h):W A c128_1 e h (P128_1 a0 f1 fB t):=by
 obtain⟨g_f1,fs_f1,cs_f1,hv_f1,hc_f1⟩:=id hf1;show W A (.block 0 (.loop false b128_1)) e h _;rw[qp];refine qF hF 0 (by obtain⟨_,rfl,_⟩:=hI; rfl) (I128_1 a0 f1 fB) hI ?_ ?_
 ·rintro aS _ e h ⟨k2,rfl,h_1⟩ hlt hw o ho
  unfold kK at ho;obtain⟨x4,fM,ho⟩:=bS ho;obtain⟨sS,sR⟩:=qm fM;obtain⟨x6,nJ,ho⟩:=bS ho;have w7a:∀h,mapO (frz h 16) (fs_f1++[iL x4]++cs_f1)=some (fs_f1++[iL x4]++cs_f1):=fun h=> hc_f1.zf x4 h;have w7b:List.all (fs_f1++[iL x4]++cs_f1) (qv 16)=true:=hc_f1.zr x4;have w7c:ans A g_f1 (fs_f1++[iL x4]++cs_f1)=some (V.bool x6):=hc_f1.ka x4 _ nJ;cases x6 with
  |true=>
   rw[if_pos rfl]at ho;cases ho;simp only[simprocAttr,R0,b128_1, *];intro ht; subst ht;simp only[simprocAttr,RR,RB];exact ai rfl (qh (by simp only[simprocAttr,R0,qg,p128,Rs.ev,qd, *]))
  |false=>
   rw[if_neg wD]at ho;cases ho;simp only[simprocAttr,R0,b128_1, *];refine ai rfl (ei _ (ai rfl ?_));simp only[simprocAttr,R0, *]
 ·rintro aS _ e h ⟨k2,rfl,h_1⟩ hge t1 ho
  unfold F128_1_D at ho;cases ho;simp only[simprocAttr,R0,b128_1, *];intro ht; subst ht;refine ai rfl (ei _ (ai rfl ?_));simp only[simprocAttr,R0, *]
theorem s128(a0:aJ)(f1:L1→Option Bool){fB:V}(hf1:Clo1 A fB f1){r:Int}(hF:F128 a0 f1=some r):ans A 128 [iL a0,fB]=some (enc r):=by
 refine qB (f:=p128) rfl rfl rfl fun e hl he=>?_;have aA:=he 0 _ rfl;have aB:=he 1 _ rfl;obtain⟨g_f1,fs_f1,cs_f1,hv_f1,hc_f1⟩:=id hf1;have hl_0:e.length=19:=hl;clear he hl;have h_0:=ai hl_0 (ai aA aB);show W A b128 e ⟨[],0⟩ _;unfold F128 at hF;obtain⟨t8,fg,hF⟩:=bS hF;rcases t8 with _|r9
 ·dsimp only at hF
  simp only[simprocAttr,R0,b128, *];refine W.mono (l128_1 a0 f1 fB hf1 fg (ei _ (ai rfl ?_))) ?_
  ·simp only[simprocAttr,R0, *]
  rintro _ e _ ⟨rfl,k2,rfl,hl_3⟩;cases hF;simp only[simprocAttr,R0, *];exact qh (by simp only[simprocAttr,R0,qg,p128,Rs.ev,qd, *])
 ·dsimp only at hF
  cases hF;simp only[simprocAttr,R0,b128, *];refine W.mono (l128_1 a0 f1 fB hf1 fg (ei _ (ai rfl ?_))) ?_
  ·simp only[simprocAttr,R0, *]
  rintro _ e h ⟨rfl,hq⟩;simp only[simprocAttr,RR,RB];exact hq
def F117(a0:aJ)(f1:L1→Option Bool):Option Bool:=
 (F128 a0 f1).bind fun x1=>
 some (decide (0≤x1))
theorem s117(a0:aJ)(f1:L1→Option Bool){fB:V}(hf1:Clo1 A fB f1){r:Bool}(hF:F117 a0 f1=some r):ans A 117 [iL a0,fB]=some (enc r):=by
 refine qB (f:=p117) rfl rfl rfl fun e hl he=>?_;have aA:=he 0 _ rfl;have aB:=he 1 _ rfl;obtain⟨g_f1,fs_f1,cs_f1,hv_f1,hc_f1⟩:=id hf1;have hl_0:e.length=9:=hl;clear he hl;show W A b117 e ⟨[],0⟩ _;unfold F117 at hF;obtain⟨x1,bD,hF⟩:=bS hF;have w2:ans A 128 [iL a0,fB]=some (iI x1):=s128 a0 f1 hf1 bD;cases hF;simp only[simprocAttr,R0,b117,hl_0,aA,aB,hf1.fz,hf1.rl,w2];exact qh (by simp only[simprocAttr,R0,qg,p117,Rs.ev,qd,hl_0,aA,aB,hf1.fz,hf1.rl,w2])
def F90(a0:Int)(a1:Int)(a2:aJ):Option Bool:=
 (F117 a2 (fun x=> F116 x a0 a1)).bind fun x1=>
 some (!x1)
theorem s90(a0:Int)(a1:Int)(a2:aJ){r:Bool}(hF:F90 a0 a1 a2=some r):ans A 90 [iI a0,iI a1,iL a2]=some (enc r):=by
 refine qB (f:=p90) rfl rfl rfl fun e hl he=>?_;have aA:=he 0 _ rfl;have aB:=he 1 _ rfl;have aU:=he 2 _ rfl;have hl_0:e.length=11:=hl;clear he hl;show W A b90 e ⟨[],0⟩ _;unfold F90 at hF;obtain⟨x1,bD,hF⟩:=bS hF;have w2:ans A 117 [iL a2,V.fn 116 [] [V.iptr [iI a0],V.iptr [iI a1]]]=some (V.bool x1):=s117 a2 (fun x=> F116 x a0 a1) (Clo1.of (by intro h f; simp only[RZ,mapO]) (by intro h f; simp only[RZ,mapO]) (by intro f; simp only[RZ,RB]) (by intro f; simp only[RZ,RB]) (fun x _ hr=> s116 x a0 a1 hr)) bD;cases hF;simp only[simprocAttr,R0,b90, *];exact qh (by simp only[simprocAttr,R0,qg,p90,Rs.ev,qd, *])
def F119_2_B(a0:Int)(a2:L1)(a3:aJ)(dG:Int)(x7:Int)(x9:L1)(fL:Int)(dT:L1):Option ((L1)⊕(L1)):=
 (getI x9 fL).bind fun fV=>
(getI dT fL).bind fun dO=>
(chk (x7*fV)).bind fun fG=>
(chk (dO+fG)).bind fun fF=>
(remI fF a0).bind fun gY=>
(setI dT fL gY).bind fun rC=>
some (.inl rC)
def F119_2_D(a0:Int)(a2:L1)(a3:aJ)(dG:Int)(x7:Int)(x9:L1)(fL:Int)(dT:L1):Option (L1):=
 some dT
def F119_1_B(a0:Int)(a2:L1)(a3:aJ)(dG:Int)(aN:L1):Option ((L1)⊕(L1)):=
 (getI a2 dG).bind fun x7=>
(getI a3 dG).bind fun x9=>
(forR 0 (x9.length:Int) (F119_2_B a0 a2 a3 dG x7 x9) (F119_2_D a0 a2 a3 dG x7 x9) aN).bind fun fP=>
some (.inl fP)
def F119_1_D(a0:Int)(a2:L1)(a3:aJ)(dG:Int)(aN:L1):Option (L1):=
 some aN
def F119(a0:Int)(a1:Int)(a2:L1)(a3:aJ):Option L1:=
 (mkL 8 a1 0).bind fun l1=>
 (forR 0 (a2.length:Int) (F119_1_B a0 a2 a3) (F119_1_D a0 a2 a3) l1).bind fun aM=>
 some aM
def I119_2(a0:Int)(a2:L1)(a3:aJ)(dG:Int)(x7:Int)(x9:L1)(fL:Int)(dT:L1)(e:Env)(h:Heap):Prop:=
 ∃lI fW:Nat,h=⟨[(lI,some (dT.map enc))],fW⟩∧e.length=49∧e.at 0=iI a0∧e.at 3=iL a3∧e.at 9=V.sl 0 lI 0 dT.length 1∧e.at 11=iI x7∧e.at 16=iL a2∧e.at 17=iI (a2.length:Int)∧e.at 18=iI dG∧e.at 26=iL x9∧e.at 27=iI (x9.length:Int)∧e.at 28=iI fL
def P119_2(a0:Int)(a2:L1)(a3:aJ)(dG:Int)(x7:Int)(x9:L1)(fP:L1)(x:Ex)(e:Env)(h:Heap):Prop:=
 x= .normal∧∃lI fW:Nat,h=⟨[(lI,some (fP.map enc))],fW⟩∧e.length=49∧e.at 0=iI a0∧e.at 3=iL a3∧e.at 9=V.sl 0 lI 0 fP.length 1∧e.at 16=iL a2∧e.at 17=iI (a2.length:Int)∧e.at 18=iI dG
theorem l119_2(a0:Int)(a2:L1)(a3:aJ)(dG:Int)(x7:Int)(x9:L1){lo:Int}{s:L1}{t:L1}(hF:forR lo (x9.length:Int) (F119_2_B a0 a2 a3 dG x7 x9) (F119_2_D a0 a2 a3 dG x7 x9) s=some t){e:Env}{h:Heap}(hI:I119_2 a0 a2 a3 dG x7 x9 lo s e h):W A c119_2 e h (P119_2 a0 a2 a3 dG x7 x9 t):=by
 show W A (.block 2 (.loop false b119_2)) e h _;rw[qp];refine qF hF 1 (by obtain⟨_,_,rfl,_⟩:=hI; rfl) (I119_2 a0 a2 a3 dG x7 x9) hI ?_ ?_
 ·rintro fL dT e h ⟨lI,fW,rfl,h_11⟩ hlt hw o ho
  unfold F119_2_B at ho;obtain⟨fV,iN,ho⟩:=bS ho;obtain⟨nX,nA⟩:=qm iN;obtain⟨dO,fI,ho⟩:=bS ho;obtain⟨rI,nW⟩:=qm fI;have sU:=zi fI;have mH:List.drop (Int.toNat fL) (dT.map enc)=(iI dO)::List.drop ((Int.toNat fL)+1) (dT.map enc):=xh nW;obtain⟨fG,iT,ho⟩:=bS ho;have ag:=qD iT;obtain⟨fF,fS,ho⟩:=bS ho;have sN:=qD fS;obtain⟨gY,iR,ho⟩:=bS ho;obtain⟨nu,nt⟩:=rem_w iR;obtain⟨rC,lU,ho⟩:=bS ho;obtain⟨nq,np,w24c,w24d,bi⟩:=xB lU;replace bi:List.take (Int.toNat fL) (dT.map enc)++[iI gY]++List.drop (Int.toNat fL+1) (dT.map enc)=List.map enc rC:=bi;cases ho;simp only[simprocAttr,R0,b119_2, *];refine ai rfl (ei _ (ei _ (ai rfl ?_)));simp only[simprocAttr,R0, *]
 ·rintro fL dT e h ⟨lI,fW,rfl,h_11⟩ hge t1 ho
  unfold F119_2_D at ho;cases ho;simp only[simprocAttr,R0,b119_2, *];intro ht; subst ht;refine ai rfl (ei _ (ei _ (ai rfl ?_)));simp only[simprocAttr,R0, *]
def I119_1(a0:Int)(a2:L1)(a3:aJ)(dG:Int)(aN:L1)(e:Env)(h:Heap):Prop:=
 ∃u4 k5:Nat,h=⟨[(u4,some (aN.map enc))],k5⟩∧e.length=49∧e.at 0=iI a0∧e.at 3=iL a3∧e.at 9=V.sl 0 u4 0 aN.length 1∧e.at 16=iL a2∧e.at 17=iI (a2.length:Int)∧e.at 18=iI dG
def P119_1(a0:Int)(a2:L1)(a3:aJ)(aM:L1)(x:Ex)(e:Env)(h:Heap):Prop:=
 x= .normal∧∃u4 k5:Nat,h=⟨[(u4,some (aM.map enc))],k5⟩∧e.length=49∧e.at 9=V.sl 0 u4 0 aM.length 1
theorem l119_1(a0:Int)(a2:L1)(a3:aJ){lo:Int}{s:L1}{t:L1}(hF:forR lo (a2.length:Int) (F119_1_B a0 a2 a3) (F119_1_D a0 a2 a3) s=some t){e:Env}{h:Heap}(hI:I119_1 a0 a2 a3 lo s e h):W A c119_1 e h (P119_1 a0 a2 a3 t):=by
 show W A (.block 0 (.loop false b119_1)) e h _;rw[qp];refine qF hF 1 (by obtain⟨_,_,rfl,_⟩:=hI; rfl) (I119_1 a0 a2 a3) hI ?_ ?_
 ·rintro dG aN e h ⟨u4,k5,rfl,h_3⟩ hlt hw o ho
  unfold F119_1_B at ho;obtain⟨x7,dQ,ho⟩:=bS ho;obtain⟨nV,mZ⟩:=qm dQ;obtain⟨x9,fR,ho⟩:=bS ho;obtain⟨nZ,nY⟩:=qm fR;obtain⟨fP,pS,ho⟩:=bS ho;simp only[simprocAttr,R0,b119_1, *];refine W.mono (l119_2 a0 a2 a3 dG x7 x9 pS (ei _ (ei _ (ai rfl ?_)))) ?_
  ·simp only[simprocAttr,R0, *]
  rintro _ e _ ⟨rfl,lI,fW,rfl,h_14⟩;cases ho;simp only[simprocAttr,R0, *];refine ai rfl (ei _ (ei _ (ai rfl ?_)));simp only[simprocAttr,R0, *]
 ·rintro dG aN e h ⟨u4,k5,rfl,h_3⟩ hge t1 ho
  unfold F119_1_D at ho;cases ho;simp only[simprocAttr,R0,b119_1, *];intro ht; subst ht;refine ai rfl (ei _ (ei _ (ai rfl ?_)));simp only[simprocAttr,R0, *]
theorem s119(a0:Int)(a1:Int)(a2:L1)(a3:aJ){r:L1}(hF:F119 a0 a1 a2 a3=some r):ans A 119 [iI a0,iI a1,iL a2,iL a3]=some (enc r):=by
 refine qB (f:=p119) rfl rfl rfl fun e hl he=>?_;have aA:=he 0 _ rfl;have aB:=he 1 _ rfl;have aU:=he 2 _ rfl;have cX:=he 3 _ rfl;have hl_0:e.length=49:=hl;clear he hl;show W A b119 e ⟨[],0⟩ _;unfold F119 at hF;obtain⟨l1,tM,hF⟩:=bS hF;obtain⟨tR,tQ,ay,v6,pN⟩:=mkL_w tM;replace pN:(List.replicate (Int.toNat a1) [iI 0]).flatten=List.map enc l1:=pN;obtain⟨aM,tC,hF⟩:=bS hF;simp only[simprocAttr, -Int.reduceNatCast',R0,b119, *];refine W.mono (l119_1 a0 a2 a3 tC (ei _ (ei _ (ai rfl ?_)))) ?_
 ·simp only[simprocAttr, -Int.reduceNatCast',R0, *]
 rintro _ e _ ⟨rfl,u4,k5,rfl,hl_6,ef⟩;have hE:=wA hF; subst hE;simp only[simprocAttr, -Int.reduceNatCast',R0, *];exact qh (by simp only[simprocAttr, -Int.reduceNatCast',R0,qg,p119,Rs.ev,qd,frzs (α:=Int) aM,qR (α:=Int) aM, *])
def F91(a0:qe)(a1:Int)(a2:L1):Option L1:=
 if a1≤0 then
  some ([]:L1)
 else
  (F86 a0).bind fun x2=>
  if x2 < a1 then
   some ([]:L1)
  else
   (chk (a1 - 1)).bind fun x5=>
   (getI a0.D x5).bind fun x6=>
   (getI a0.M x5).bind fun x8=>
   (F119 a0.P x6 a2 x8).bind fun eD=>
   some eD
theorem s91(a0:qe)(a1:Int)(a2:L1){r:L1}(hF:F91 a0 a1 a2=some r):ans A 91 [(eC a0),iI a1,iL a2]=some (enc r):=by
 refine qB (f:=p91) rfl rfl rfl fun e hl he=>?_;have aA:=he 0 _ rfl;have aB:=he 1 _ rfl;have aU:=he 2 _ rfl;have hl_0:e.length=31:=hl;clear he hl;have h_0:=ai hl_0 (ai aA (ai aB aU));show W A b91 e ⟨[],0⟩ _;unfold F91 at hF;by_cases c1:a1≤0
 ·rw[if_pos c1]at hF
  cases hF;simp only[simprocAttr,R0,b91, *];exact qh (by simp only[simprocAttr,R0,qg,p91,Rs.ev,qd, *])
 ·rw[if_neg c1]at hF
  obtain⟨x2,iS,hF⟩:=bS hF;have w3:=s86 a0 iS;by_cases c4:x2 < a1
  ·rw[if_pos c4]at hF
   cases hF;simp only[simprocAttr,R0,b91, *];exact qh (by simp only[simprocAttr,R0,qg,p91,Rs.ev,qd, *])
  ·rw[if_neg c4]at hF
   obtain⟨x5,dB,hF⟩:=bS hF;have mg:=qD dB;obtain⟨x6,nJ,hF⟩:=bS hF;obtain⟨w7a,w7b⟩:=qm nJ;obtain⟨x8,oJ,hF⟩:=bS hF;obtain⟨mo,mn⟩:=qm oJ;obtain⟨eD,eT,hF⟩:=bS hF;have sH:=s119 a0.P x6 a2 x8 eT;cases hF;simp only[simprocAttr,R0,b91, *];exact qh (by simp only[simprocAttr,R0,qg,p91,Rs.ev,qd, *])
def F118(a0:Int):Option Bool:=
 some (!(decide (a0=0)))
theorem s118(a0:Int){r:Bool}(hF:F118 a0=some r):ans A 118 [iI a0]=some (enc r):=by
 refine qB (f:=p118) rfl rfl rfl fun e hl he=>?_;have aA:=he 0 _ rfl;have hl_0:e.length=5:=hl;clear he hl;show W A b118 e ⟨[],0⟩ _;unfold F118 at hF;cases hF;simp only[simprocAttr,R0,b118, *];exact qh (by simp only[simprocAttr,R0,qg,p118,Rs.ev,qd, *])
def F92(a0:L1):Option Bool:=
 (F82 a0 (fun x=> F118 x)).bind fun x1=>
 some (!x1)
theorem s92(a0:L1){r:Bool}(hF:F92 a0=some r):ans A 92 [iL a0]=some (enc r):=by
 refine qB (f:=p92) rfl rfl rfl fun e hl he=>?_;have aA:=he 0 _ rfl;have hl_0:e.length=6:=hl;clear he hl;show W A b92 e ⟨[],0⟩ _;unfold F92 at hF;obtain⟨x1,bD,hF⟩:=bS hF;have w2:ans A 82 [iL a0,V.fn 118 [] []]=some (V.bool x1):=s82 a0 (fun x=> F118 x) (Clo1.of (by intro h f; simp only[RZ,mapO]) (by intro h f; simp only[RZ,mapO]) (by intro f; simp only[RZ,RB]) (by intro f; simp only[RZ,RB]) (fun x _ hr=> s118 x hr)) bD;cases hF;simp only[simprocAttr,R0,b92, *];exact qh (by simp only[simprocAttr,R0,qg,p92,Rs.ev,qd, *])
def F42_1_B(a0:qe)(kO:Int)(s:Unit):Option ((Unit)⊕((Unit)⊕Bool)):=
 (getI a0.M kO).bind fun fV=>
(getI a0.D (kO+1)).bind fun fG=>
if(fV.length:Int)=fG then
 (getI a0.D kO).bind fun fA=>
 (F90 a0.P fA fV).bind fun x24=>
 if x24=true then
  some (.inl ())
 else
  some (.inr (.inr false))
else
 some (.inr (.inr false))
def F42_1_D(a0:qe)(kO:Int)(s:Unit):Option ((Unit)⊕Bool):=
 some (.inl ())
def F42_3_B(a0:qe)(eG:Int)(iF:aJ)(lV:Int)(s:Unit):Option ((Unit)⊕((Unit)⊕Bool)):=
 (getI iF lV).bind fun pW=>
(chk (eG - 1)).bind fun lw=>
(F91 a0 lw pW).bind fun nS=>
(F92 nS).bind fun eA=>
if eA=true then
 some (.inl ())
else
 some (.inr (.inr false))
def F42_3_D(a0:qe)(eG:Int)(iF:aJ)(lV:Int)(s:Unit):Option ((Unit)⊕Bool):=
 some (.inl ())
def F42_2_S(a0:qe)(eG:Int):Option ((Int)⊕((Unit)⊕Bool)):=
 (F86 a0).bind fun dZ=>
if eG≤dZ then
 (chk (eG - 1)).bind fun nT=>
 (getI a0.M nT).bind fun iF=>
 (forR 0 (iF.length:Int) (F42_3_B a0 eG iF) (F42_3_D a0 eG iF) ()).bind fun sX=> match sX with
  | .inl _=>
   (chk (eG+1)).bind fun q9=>
   some (.inl q9)
  | .inr r48=> some (.inr (.inr r48))
else
 some (.inr (.inl ()))
def F42(a0:qe):Option Bool:=
 (F67 a0.P).bind fun x1=>
 if x1=true then
  (F86 a0).bind fun x3=>
  (F56 x3 0 5).bind fun x5=>
  if x5=true then
   if(a0.M.length:Int)=x3 then
    (F82 a0.D (fun x=> F88 x)).bind fun eD=>
    if eD=true then
     some false
    else
     (forR 0 (a0.M.length:Int) (F42_1_B a0) (F42_1_D a0) ()).bind fun pk=> match pk with
      | .inl _=>
       (qY (F42_2_S a0) 2).bind fun ph=> match ph with
        | .inl _=>
         some true
        | .inr cu=> some cu
      | .inr r51=> some r51
   else
    some false
  else
   some false
 else
  some false
def I42_1(a0:qe)(kO:Int)(s:Unit)(e:Env)(h:Heap):Prop:=
 ∃fW:Nat,h=⟨[(0,none)],fW⟩∧e.length=86∧e.at 1=eP a0∧e.at 32=iL a0.M∧e.at 33=iI (a0.M.length:Int)∧e.at 34=iI kO
def P42_1(a0:qe)(t:(Unit)⊕Bool)(x:Ex)(e:Env)(h:Heap):Prop:=
 match t with
 | .inl _=> x= .normal∧∃fW:Nat,h=⟨[(0,none)],fW⟩∧e.length=86∧e.at 1=eP a0
 | .inr r=> x= .ret∧Fin p42 (enc r) .ret e h
theorem l42_1(a0:qe){lo:Int}{s:Unit}{t:(Unit)⊕Bool}(hF:forR lo (a0.M.length:Int) (F42_1_B a0) (F42_1_D a0) s=some t){e:Env}{h:Heap}(hI:I42_1 a0 lo s e h):W A c42_1 e h (P42_1 a0 t):=by
 show W A (.block 0 (.loop false b42_1)) e h _;rw[qp];refine qF hF 1 (by obtain⟨_,rfl,_⟩:=hI; rfl) (I42_1 a0) hI ?_ ?_
 ·rintro kO _ e h ⟨fW,rfl,h_12⟩ hlt hw o ho
  unfold F42_1_B at ho;obtain⟨fV,iN,ho⟩:=bS ho;obtain⟨nX,nA⟩:=qm iN;have pZ:=s89 fV rfl;obtain⟨fG,iT,ho⟩:=bS ho;obtain⟨ny,nw⟩:=qm iT;by_cases c21:(fV.length:Int)=fG
  ·rw[if_pos c21]at ho
   obtain⟨fA,iQ,ho⟩:=bS ho;obtain⟨bk,bj⟩:=qm iQ;obtain⟨x24,lP,ho⟩:=bS ho;have w25:=s90 a0.P fA fV lP;cases x24 with
   |true=>
    rw[if_pos rfl]at ho;cases ho;simp only[simprocAttr,R0,b42_1, *];refine ai rfl (ei _ (ai rfl ?_));simp only[simprocAttr,R0, *]
   |false=>
    rw[if_neg wD]at ho;cases ho;simp only[simprocAttr,R0,b42_1, *];intro ht; subst ht;simp only[simprocAttr,RR,RB];exact ai rfl (qh (by simp only[simprocAttr,R0,qg,p42,Rs.ev,qd, *]))
  ·rw[if_neg c21]at ho
   cases ho;simp only[simprocAttr,R0,b42_1, *];intro ht; subst ht;simp only[simprocAttr,RR,RB];exact ai rfl (qh (by simp only[simprocAttr,R0,qg,p42,Rs.ev,qd, *]))
 ·rintro kO _ e h ⟨fW,rfl,h_12⟩ hge t1 ho
  unfold F42_1_D at ho;cases ho;simp only[simprocAttr,R0,b42_1, *];intro ht; subst ht;refine ai rfl (ei _ (ai rfl ?_));simp only[simprocAttr,R0, *]
def I42_3(a0:qe)(eG:Int)(iF:aJ)(lV:Int)(s:Unit)(e:Env)(h:Heap):Prop:=
 ∃y8:Nat,h=⟨[(0,none)],y8⟩∧e.length=86∧e.at 1=eP a0∧e.at 5=iI eG∧e.at 72=iL iF∧e.at 73=iI (iF.length:Int)∧e.at 74=iI lV
def P42_3(a0:qe)(eG:Int)(iF:aJ)(t:(Unit)⊕Bool)(x:Ex)(e:Env)(h:Heap):Prop:=
 match t with
 | .inl _=> x= .normal∧∃y8:Nat,h=⟨[(0,none)],y8⟩∧e.length=86∧e.at 1=eP a0∧e.at 5=iI eG
 | .inr r=> x= .ret∧Fin p42 (enc r) .ret e h
theorem l42_3(a0:qe)(eG:Int)(iF:aJ){lo:Int}{s:Unit}{t:(Unit)⊕Bool}(hF:forR lo (iF.length:Int) (F42_3_B a0 eG iF) (F42_3_D a0 eG iF) s=some t){e:Env}{h:Heap}(hI:I42_3 a0 eG iF lo s e h):W A c42_3 e h (P42_3 a0 eG iF t):=by
 show W A (.block 4 (.loop false b42_3)) e h _;rw[qp];refine qF hF 1 (by obtain⟨_,rfl,_⟩:=hI; rfl) (I42_3 a0 eG iF) hI ?_ ?_
 ·rintro lV _ e h ⟨y8,rfl,h_36⟩ hlt hw o ho
  unfold F42_3_B at ho;obtain⟨pW,rY,ho⟩:=bS ho;obtain⟨w40a,w40b⟩:=qm rY;obtain⟨lw,tu,ho⟩:=bS ho;have wx41:=qD tu;obtain⟨nS,mS,ho⟩:=bS ho;have w43:=s91 a0 lw pW mS;obtain⟨eA,mR,ho⟩:=bS ho;have w45:=s92 nS mR;cases eA with
  |true=>
   rw[if_pos rfl]at ho;cases ho;simp only[simprocAttr,R0,b42_3, *];refine ai rfl (ei _ (ai rfl ?_));simp only[simprocAttr,R0, *]
  |false=>
   rw[if_neg wD]at ho;cases ho;simp only[simprocAttr,R0,b42_3, *];intro ht; subst ht;simp only[simprocAttr,RR,RB];exact ai rfl (qh (by simp only[simprocAttr,R0,qg,p42,Rs.ev,qd, *]))
 ·rintro lV _ e h ⟨y8,rfl,h_36⟩ hge t1 ho
  unfold F42_3_D at ho;cases ho;simp only[simprocAttr,R0,b42_3, *];intro ht; subst ht;refine ai rfl (ei _ (ai rfl ?_));simp only[simprocAttr,R0, *]
def I42_2(a0:qe)(eG:Int)(e:Env)(h:Heap):Prop:=
 ∃dj:Nat,h=⟨[(0,none)],dj⟩∧e.length=86∧e.at 1=eP a0∧e.at 5=iI eG
def P42_2(a0:qe)(t:(Unit)⊕Bool)(x:Ex)(e:Env)(h:Heap):Prop:=
 match t with
 | .inl _=> x= .normal∧∃dj:Nat,h=⟨[(0,none)],dj⟩∧e.length=86
 | .inr r=> x= .ret∧Fin p42 (enc r) .ret e h
theorem l42_2(a0:qe){s:Int}{t:(Unit)⊕Bool}(hF:qY (F42_2_S a0) s=some t){e:Env}{h:Heap}(hI:I42_2 a0 s e h):W A c42_2 e h (P42_2 a0 t):=by
 show W A (.block 2 (.loop false b42_2)) e h _;rw[qp];refine zW hF 1 (by obtain⟨_,rfl,_⟩:=hI; rfl) (I42_2 a0) hI ?_
 ·rintro eG e h ⟨dj,rfl,h_27⟩ o ho
  unfold F42_2_S at ho;obtain⟨dZ,nL,ho⟩:=bS ho;have aw:=s86 a0 nL;by_cases c32:eG≤dZ
  ·rw[if_pos c32]at ho
   obtain⟨nT,oT,ho⟩:=bS ho;have ae:=qD oT;obtain⟨iF,oO,ho⟩:=bS ho;obtain⟨av,au⟩:=qm oO;obtain⟨sX,oX,ho⟩:=bS ho;rcases sX with _|r48
   ·dsimp only at ho
    simp only[simprocAttr,R0,b42_2, *];refine W.mono (l42_3 a0 eG iF oX (ei _ (ai rfl ?_))) ?_
    ·simp only[simprocAttr,R0, *]
    rintro _ e _ ⟨rfl,y8,rfl,h_38⟩;obtain⟨q9,n8,ho⟩:=bS ho;have wx47:=qD n8;cases ho;simp only[simprocAttr,R0, *];refine ai rfl (ei _ (ai rfl ?_));simp only[simprocAttr,R0, *]
   ·dsimp only at ho
    cases ho;simp only[simprocAttr,R0,b42_2, *];refine W.mono (l42_3 a0 eG iF oX (ei _ (ai rfl ?_))) ?_
    ·simp only[simprocAttr,R0, *]
    rintro _ e h ⟨rfl,hq⟩;simp only[simprocAttr,RR,RB];intro ht; subst ht;simp only[simprocAttr,RR,RB];exact ai rfl hq
  ·rw[if_neg c32]at ho
   cases ho;simp only[simprocAttr,R0,b42_2, *];intro ht; subst ht;simp only[simprocAttr,RR,RB];refine ai rfl (ei _ (ai rfl ?_));simp only[simprocAttr,R0, *]
set_option maxHeartbeats 8000000 in
theorem s42(a0:qe){r:Bool}(hF:F42 a0=some r):ans A 42 [(eC a0)]=some (enc r):=by
 refine qB (f:=p42) rfl rfl rfl fun e hl he=>?_;have aA:=he 0 _ rfl;have hl_0:e.length=86:=hl;clear he hl;have h_0:=ai hl_0 aA;show W A b42 e ⟨[],0⟩ _;unfold F42 at hF;obtain⟨x1,bD,hF⟩:=bS hF;have w2:ans A 67 [iI a0.P]=some (V.bool x1):=s67 a0.P bD;cases x1 with
 |true=>
  rw[if_pos rfl]at hF;obtain⟨x3,dN,hF⟩:=bS hF;have w4:ans A 86 [(eC a0)]=some (iI x3):=s86 a0 dN;obtain⟨x5,dB,hF⟩:=bS hF;have w6:ans A 56 [iI x3,iI 0,iI 5]=some (V.bool x5):=s56 x3 0 5 dB;cases x5 with
  |true=>
   rw[if_pos rfl]at hF;have w8:ans A 87 [iL a0.M]=some (iI (a0.M.length:Int)):=s87 a0.M rfl;by_cases c9:(a0.M.length:Int)=x3
   ·rw[if_pos c9]at hF
    obtain⟨eD,eT,hF⟩:=bS hF;have sH:ans A 82 [iL a0.D,V.fn 88 [] []]=some (V.bool eD):=s82 a0.D (fun x=> F88 x) (Clo1.of (by intro h f; simp only[RZ,mapO]) (by intro h f; simp only[RZ,mapO]) (by intro f; simp only[RZ,RB]) (by intro f; simp only[RZ,RB]) (fun x _ hr=> s88 x hr)) eT;cases eD with
    |true=>
     rw[if_pos rfl]at hF;cases hF;simp only[simprocAttr,R0,b42, *];exact qh (by simp only[simprocAttr,R0,qg,p42,Rs.ev,qd, *])
    |false=>
     rw[if_neg wD]at hF;obtain⟨pk,tC,hF⟩:=bS hF;rcases pk with _|r51
     ·dsimp only at hF
      simp only[simprocAttr,R0,b42, *];refine W.mono (l42_1 a0 tC (ei _ (ai rfl ?_))) ?_
      ·simp only[simprocAttr,R0, *]
      rintro _ e _ ⟨rfl,fW,rfl,h_14⟩;obtain⟨ph,fk,hF⟩:=bS hF;rcases ph with _|cu
      ·dsimp only at hF
       simp only[simprocAttr,R0, *];refine W.mono (l42_2 a0 fk (ei _ (ai rfl ?_))) ?_
       ·simp only[simprocAttr,R0, *]
       rintro _ e _ ⟨rfl,dj,rfl,hl_29⟩;cases hF;simp only[simprocAttr,R0, *];exact qh (by simp only[simprocAttr,R0,qg,p42,Rs.ev,qd, *])
      ·dsimp only at hF
       cases hF;simp only[simprocAttr,R0, *];refine W.mono (l42_2 a0 fk (ei _ (ai rfl ?_))) ?_
       ·simp only[simprocAttr,R0, *]
       rintro _ e h ⟨rfl,hq⟩;simp only[simprocAttr,RR,RB];exact hq
     ·dsimp only at hF
      cases hF;simp only[simprocAttr,R0,b42, *];refine W.mono (l42_1 a0 tC (ei _ (ai rfl ?_))) ?_
      ·simp only[simprocAttr,R0, *]
      rintro _ e h ⟨rfl,hq⟩;simp only[simprocAttr,RR,RB];exact hq
   ·rw[if_neg c9]at hF
    cases hF;simp only[simprocAttr,R0,b42, *];exact qh (by simp only[simprocAttr,R0,qg,p42,Rs.ev,qd, *])
  |false=>
   rw[if_neg wD]at hF;cases hF;simp only[simprocAttr,R0,b42, *];exact qh (by simp only[simprocAttr,R0,qg,p42,Rs.ev,qd, *])
 |false=>
  rw[if_neg wD]at hF;cases hF;simp only[simprocAttr,R0,b42, *];exact qh (by simp only[simprocAttr,R0,qg,p42,Rs.ev,qd, *])
def F74_2_B(a1:L1)(aD:L3)(iE:Int)(iD:L1)(cZ:Int)(x7:Int)(ci:Int)(i7:aJ):Option ((aJ)⊕(aJ)):=
 (chk (cZ - 1)).bind fun eI=>
(getI a1 eI).bind fun cW=>
(mkL 8 cW 0).bind fun mB=>
(app 24 i7 [mB]).bind fun sZ=>
some (.inl sZ)
def F74_2_D(a1:L1)(aD:L3)(iE:Int)(iD:L1)(cZ:Int)(x7:Int)(ci:Int)(i7:aJ):Option (aJ):=
 some i7
def F74_1_B(a1:L1)(cZ:Int)(s:L3×Int×L1):Option ((L3×Int×L1)⊕(L3×Int×L1)):=
 match s with
 |(aD,iE,iD)=>
  (getI a1 cZ).bind fun x7=>
  (forR 0 x7 (F74_2_B a1 aD iE iD cZ x7) (F74_2_D a1 aD iE iD cZ x7) ([]:aJ)).bind fun z9=>
  (app 24 aD [z9]).bind fun cz=>
  some (.inl (cz,iE,iD))
def F74_1_D(a1:L1)(cZ:Int)(s:L3×Int×L1):Option (L3×Int×L1):=
 match s with
 |(aD,iE,iD)=>
  some (aD,iE,iD)
def F74(a0:Int)(a1:L1):Option qe:=
 (forR 1 (a1.length:Int) (F74_1_B a1) (F74_1_D a1) ([],a0,a1)).bind fun i4=> match i4 with
  |(aF,sM,sL)=>
   some ⟨sM,sL,aF⟩
set_option maxHeartbeats 8000000 in
theorem d74(a0:Int)(a1:L1){r:qe}(hF:F74 a0 a1=some r)(E0:List (nO))(c0:Nat){dk du:Nat}(rQ:E0[dk]? =some (du,some (a1.map enc))):∃v h',res A 74 [iI a0,V.sl dk du 0 a1.length 1] ⟨E0,c0⟩=some (v,h')∧r.P=a0∧r.D=a1∧∃m K,v=V.agg [iI r.P,V.sl dk du 0 a1.length 1,m]∧Deep.rep h' m r.M K∧(∀k,K k→E0.length≤k)∧(∀k,k < E0.length→h'.ents[k]? =E0[k]?)∧E0.length≤h'.ents.length:=by
 have hdk:dk < E0.length:=gA rQ;refine xp (f:=p74) rfl rfl rfl fun e hl he=>?_;have aA:=he 0 _ rfl;have aB:=he 1 _ rfl;have hl_0:e.length=41:=hl;clear he hl;show W A b74 e ⟨E0,c0⟩ _;unfold F74 at hF;obtain⟨pu,sD,hF⟩:=bS hF;have ws:ans A 73 [iL a1]=some (iI (a1.length:Int)):=s73 a1 rfl;simp only[simprocAttr, -Int.reduceNatCast',R0,b74,hl_0,aA,aB,le1,qw,ge2a,ge2b,ge3a,ge3b,ge3c,se2a,se2b,se3a,se3b,se3c,jJ];show W A (.block 0 (.loop true b74_1)) _ _ _;rw[qp];refine qF sD _ rfl (fun i s e h=> s.2=(a0,a1)∧∃u vs K,h.ents[E0.length]? =some (c0,some [iI 0,V.nils,V.nils])∧h.ents[E0.length+1]? =some (u,some vs)∧h.ents[E0.length+2]? =some (c0+2,some [iI a0,V.sl dk du 0 a1.length 1,V.sl (E0.length+1) u 0 s.1.length 1])∧reps h vs s.1 K∧(∀k,K k→E0.length+3≤k)∧(∀k,k < E0.length→h.ents[k]? =E0[k]?)∧e.length=41∧e.at 1=V.sl dk du 0 a1.length 1∧e.at 4=V.ptr E0.length c0 0∧e.at 5=V.ptr (E0.length+2) (c0+2) 0∧e.at 6=iI i) ?_ ?_ ?_
 ·refine⟨rfl,c0+1,[],fun _=> False,ge3a ..,ge3b ..,ge3c ..,fun _ x=> x,fun _ x=> x.elim,fun k q=>?_,?_⟩
  ·rw[wO,wO]; exact gB q
  simp only[simprocAttr, -Int.reduceNatCast',R0,hl_0,aA,aB]
 ·clear hl_0 aA aB
  rintro i ⟨l,q⟩ e ⟨E,c⟩ ⟨rfl,u,vs,K,g1,g2,g3,g4,g5,g6,hl_1,aR,aQ,aL,aO⟩ hlt hw o ho;unfold F74_1_B at ho;simp only at ho g1 g2 g3 g4 g6;have hDd:E[dk]? =some (du,some (a1.map enc)):=(g6 dk hdk).trans rQ;have wfz:frz ⟨E,c⟩ 16 (V.sl dk du 0 a1.length 1)=_:=frz_row hDd;obtain⟨x7,dQ,ho⟩:=bS ho;obtain⟨nV,mZ⟩:=qm dQ;have tP:=zi dQ;have ir:zk none (List.drop (Int.toNat i) (a1.map enc))=some (iI x7):=qC (by rw[gF,mZ]; rfl);have hDx:∀x,(E++[x])[dk]? =some (du,some (a1.map enc)):=fun x=>(gB (gA hDd)).trans hDd;obtain⟨rows,pT,ho⟩:=bS ho;obtain⟨cz,tI,ho⟩:=bS ho;obtain⟨q1,q2,rfl⟩:=app_w tI;have hE:=wA ho; subst hE;have hE0:E0.length+2 < E.length:=gA g3;simp only[simprocAttr, -Int.reduceNatCast',R0,b74_1,hl_1,aR,aQ,aL,aO,eq_true hlt,hw,ws,wfz,nV,eq_true tP,ir,hDd,hDx];refine W.mono (Q:=fun x' e h=> x'= .normal∧∃u' vs' K',h.ents[E.length]? =some (u',some vs')∧reps h vs' rows K'∧(∀k,K' k→E.length+1≤k)∧(∀k,k < E.length→h.ents[k]? =E[k]?)∧e.length=41∧e.at 1=V.sl dk du 0 a1.length 1∧e.at 4=V.ptr E0.length c0 0∧e.at 5=V.ptr (E0.length+2) (c0+2) 0∧e.at 6=iI i∧e.at 7=V.sl E.length u' 0 rows.length 1) ?_ ?_
  rotate_left
  ·rintro _ e ⟨E1,c1⟩ ⟨rfl,u',vs',K',f1,f2,f3,f4,hl_2,nH,lR,l7,mQ,mP⟩
   simp only at f1 f4;have hln:=g4.len;have hE1:E.length < E1.length:=gA f1;have m0:=(f4 E0.length (by omega)).trans g1;have m1:=(f4 (E0.length+1) (by omega)).trans g2;have m2:=(f4 (E0.length+2) (by omega)).trans g3;have n2:∀y,(E1++[y])[E0.length+2]? =_:=fun y=>(gB (by omega)).trans m2;have n2':∀y z,((E1++[y]).set (E0.length+1) z)[E0.length+2]? =_:=fun y z=>(qL (by omega) (by omega)).trans m2;have w9:∀y c',qS 1 24 (.sl (E0.length+1) u 0 l.length 1) 1 [V.sl E.length u' 0 rows.length 1] ⟨E1++[y],c'⟩=_:=fun y c'=> zj (E:=E1++[y]) (vs:=vs) (by rw[gB (by omega)]; exact m1) hln (by simpa using q1) (by simpa using q2);simp only[simprocAttr, -Int.reduceNatCast',R0,hl_2,nH,lR,l7,mQ,mP,hw,m2,n2,n2',qw,w9];have r0:Deep.rep ⟨E1,c1⟩ (V.sl E.length u' 0 rows.length 1) rows (fun k=> k=E.length∨K' k):=rep_at f1 f2 (fun q=> by have:=f3 _ q; omega);have hk:∀k,K k∨(k=E.length∨K' k)→E0.length+3≤k:=fun k q=> q.elim (g5 k) (fun q=> q.elim (fun q=> by omega) (fun q=> by have:=f3 k q; omega));have r1:=xk (h:=⟨E,c⟩) (h1:=⟨E1,c1⟩) (h2:=⟨((E1++[(c1,some [V.sl E.length u' 0 rows.length 1])]).set (E0.length+1) (c1+1,some (vs++[V.sl E.length u' 0 rows.length 1]))).set (E0.length+2) (c0+2,some [iI a0,V.sl dk du 0 a1.length 1,V.sl (E0.length+1) (c1+1) 0 (l.length+1) 1]),c1+1+1⟩) (K:=K) g4
    r0 (fun k q=> q.elim (fun q=> by show E.length≤k; omega) (fun q=> by have:=f3 k q; show E.length≤k; omega)) f4 (fun k p q=> by
     have:=hk k q;rw[qi (by omega)];exact qL (by omega) p) (by show E.length≤E1.length; omega)
   refine ai rfl (ai rfl ⟨c1+1,vs++[V.sl E.length u' 0 rows.length 1],_,?_,?_,?_,r1,hk,fun k q=>?_,?_⟩)
   ·exact(qi (by omega)).trans ((qL (by omega) (by omega)).trans m0)
   ·exact(qi (by omega)).trans (ql (by simp; omega))
   ·simp only[wM,vJ,vG,wX]
    exact ql (by simp; omega)
   ·exact(qi (by omega)).trans ((qL (by omega) (by omega)).trans ((f4 k (by omega)).trans (g6 k q)))
   ·simp only[simprocAttr, -Int.reduceNatCast',R0,hl_2,nH,lR,l7,mQ,mP,hw]
  show W A (.block 2 (.loop true b74_2)) _ _ _;rw[qp];refine qF pT _ rfl (fun j rs e h=>∃u' vs' K',h.ents[E.length]? =some (u',some vs')∧reps h vs' rs K'∧(∀k,K' k→E.length+1≤k)∧(∀k,k < E.length→h.ents[k]? =E[k]?)∧e.length=41∧e.at 1=V.sl dk du 0 a1.length 1∧e.at 4=V.ptr E0.length c0 0∧e.at 5=V.ptr (E0.length+2) (c0+2) 0∧e.at 6=iI i∧e.at 7=V.sl E.length u' 0 rs.length 1∧e.at 21=iI x7∧e.at 22=iI j) ?_ ?_ ?_
  ·refine⟨c,[],fun _=> False,qw _ _,fun _ x=> x,fun _ x=> x.elim,fun k q=> gB q,?_⟩
   simp only[simprocAttr, -Int.reduceNatCast',R0,hl_1,aR,aQ,aL,aO]
  ·clear hl_1 aR aQ aL aO
   rintro j rs e ⟨E1,c1⟩ ⟨u',vs',K',f1,f2,f3,f4,hl_1,aR,aQ,aL,aO,aZ,pJ,pI⟩ nG sK o ho;unfold F74_2_B at ho;obtain⟨eI,fJ,ho⟩:=bS ho;have rH:=qD fJ;obtain⟨cW,dY,ho⟩:=bS ho;obtain⟨rK,rJ⟩:=qm dY;have om:=zi dY;have ol:zk none (List.drop (Int.toNat eI) (a1.map enc))=some (iI cW):=qC (by rw[gF,rJ]; rfl);obtain⟨mB,pA,ho⟩:=bS ho;obtain⟨bu,bt,og,oe,f8⟩:=mkL_w pA;replace f8:(List.replicate (Int.toNat cW) [iI 0]).flatten=List.map enc mB:=f8;obtain⟨sZ,pV,ho⟩:=bS ho;obtain⟨q1,q2,rfl⟩:=app_w pV;have hE:=wA ho; subst hE;simp only at f1 f4;have hln:=f2.len;have hE1:E.length < E1.length:=gA f1;have hD1:E1[dk]? =some (du,some (a1.map enc)):=(f4 dk (by omega)).trans hDd;have w9:∀x y c',qS 1 24 (.sl E.length u' 0 rs.length 1) 1 [V.sl E1.length c1 0 (Int.toNat cW) 1] ⟨E1++[x]++[y],c'⟩=_:=fun x y c'=> zj (E:=E1++[x]++[y]) (vs:=vs') (by rw[gB (by simp; omega),gB hE1]; exact f1) hln (by simpa using q1) (by simpa using q2);simp only[simprocAttr, -Int.reduceNatCast',R0,b74_2,hl_1,aR,aQ,aL,aO,aZ,pJ,pI,eq_true nG,sK,rH,rK,eq_true om,ol,hD1,bu,bt,og,f8,qw,w9];have r0:Deep.rep ⟨E1++[(c1,some (mB.map enc))],c1+1⟩ (V.sl E1.length c1 0 (Int.toNat cW) 1) mB (fun k=> k=E1.length):=by
    rw[←oe]; exact zY (qw _ _) fun k=> vY
   have r1:=xk (h:=⟨E1,c1⟩) (h1:=⟨E1++[(c1,some (mB.map enc))],c1+1⟩) (h2:=⟨(E1++[(c1,some (mB.map enc))]++[(c1+1,some [V.sl E1.length c1 0 (Int.toNat cW) 1])]).set E.length (c1+1+1,some (vs'++[V.sl E1.length c1 0 (Int.toNat cW) 1])),c1+1+1+1⟩) f2
    r0 (fun k q=> by show E1.length≤k; omega) (fun k q=> gB q) (fun k p q=> qL (fun e=> by subst e; exact q.elim (fun q=> by have:=f3 _ q; omega) (fun q=> by omega)) p) (by simp)
   refine ai rfl ⟨_,_,_,ql (by simp; omega),r1,fun k q=> q.elim (f3 k) (fun q=> by omega),fun k q=>?_,?_⟩
   ·refine(qL (by omega) (by simp; omega)).trans ((gB (by omega)).trans (f4 k q))
   ·simp only[simprocAttr, -Int.reduceNatCast',R0,hl_1,aR,aQ,aL,aO,aZ,pJ,pI,sK,wM]
  ·clear hl_1 aR aQ aL aO
   rintro j rs e ⟨E1,c1⟩ ⟨u',vs',K',f1,f2,f3,f4,hl_1,aR,aQ,aL,aO,aZ,pJ,pI⟩ hge t1 ho;have hE:=wA ho; subst hE;simp only[simprocAttr, -Int.reduceNatCast',R0,b74_2,hl_1,aR,aQ,aL,aO,aZ,pJ,pI,eq_false hge];intro ht; subst ht;exact⟨u',vs',K',f1,f2,f3,f4,rfl⟩
 ·rintro i ⟨l,q⟩ e ⟨E,c⟩ ⟨rfl,u,vs,K,g1,g2,g3,g4,g5,g6,hl_1,aR,aQ,aL,aO⟩ hge t1 ho
  unfold F74_1_D at ho;have hE:=wA ho; subst hE;simp only at hF g1 g2 g3 g4 g6;have hDd:E[dk]? =some (du,some (a1.map enc)):=(g6 dk hdk).trans rQ;have wfz:frz ⟨E,c⟩ 16 (V.sl dk du 0 a1.length 1)=_:=frz_row hDd;simp only[simprocAttr, -Int.reduceNatCast',R0,b74_1,hl_1,aR,aQ,aL,aO,eq_false hge,ws,wfz,g1,g2,g3];intro ht; subst ht;have hE:=wA hF; subst hE;have hE0:E0.length+2 < E.length:=gA g3;refine ai (fun _=> trivial) ⟨_,by simp only[simprocAttr, -Int.reduceNatCast',R0,qg,p74,Rs.ev,hl_1,aQ,ql (show E0.length < E.length by omega)]; rfl,rfl,rfl,_,_,rfl,rep_at (α:=aJ) (K:=K) ?_ (g4.frame fun k q=> qi (by have:=g5 k q; omega)) (fun q=> by have:=g5 _ q; omega),fun k q=> q.elim (fun q=> by omega) (fun q=> by have:=g5 k q; omega),fun k q=>(qi (by omega)).trans (g6 k q),by simp; omega⟩;exact(qi (by omega)).trans g2
set_option maxHeartbeats 8000000 in
def F75(p:Int)(n r pl v:Int)(s:L3):Option L3:=
 (chk (n - 1)).bind fun i=>(getI s i).bind fun t=>(getI t r).bind fun row=>(getI row pl).bind fun old=>(chk (old+v)).bind fun a=>(remI a p).bind fun b=>(chk (b+p)).bind fun d=>(remI d p).bind fun z=>
 (setI row pl z).bind fun row'=>(setI t r row').bind fun t'=> setI s i t'
theorem d75{p n r pl v:Int}{dv:V}{s s':L3}(hF:F75 p n r pl v s=some s')(E:List (nO))(c:Nat){m:V}{K:Ks}(hr:Deep.rep ⟨E,c⟩ m s K):
  ∃h',res A 75 [V.agg [iI p,dv,m],iI n,iI r,iI pl,iI v] ⟨E,c⟩=some (V.undef,h')∧Deep.rep h' m s' K∧(∀k,k < E.length→¬K k→h'.ents[k]? =E[k]?)∧E.length≤h'.ents.length:=by
 refine res_ex (f:=p75) rfl rfl rfl fun e hl he=>?_;have h0:e.at 0=V.agg [iI p,dv,m]:=he 0 _ rfl;have h1:e.at 1=iI n:=he 1 _ rfl;have h2:e.at 2=iI r:=he 2 _ rfl;have h3:e.at 3=iI pl:=he 3 _ rfl;have h4:e.at 4=iI v:=he 4 _ rfl;have hl_0:e.length=38:=hl;clear he hl;show W A b75 e ⟨E,c⟩ _;unfold F75 at hF;obtain⟨i,gi,hF⟩:=bS hF;have wi:=qD gi;obtain⟨t,gt,hF⟩:=bS hF;obtain⟨ta,tb⟩:=qm gt;have tc:=zi gt;obtain⟨row,gr,hF⟩:=bS hF;obtain⟨ra,rb⟩:=qm gr;have rc:=zi gr;obtain⟨old,go,hF⟩:=bS hF;obtain⟨oa,ob⟩:=qm go;have oc:=zi go;obtain⟨a,ga,hF⟩:=bS hF;have wa:=qD ga;obtain⟨b,gb,hF⟩:=bS hF;obtain⟨wb0,wb⟩:=rem_w gb;obtain⟨d,gd,hF⟩:=bS hF;have wd:=qD gd;obtain⟨z,gz,hF⟩:=bS hF;obtain⟨_,wz⟩:=rem_w gz;obtain⟨row',gs,hF⟩:=bS hF;obtain⟨s1,s2,s3,s4,s5⟩:=xB gs;obtain⟨t',gt',hF⟩:=bS hF;have st:t'=t.set r.toNat row':=xL gt';have sm:s'=s.set i.toNat t':=xL hF;obtain⟨key,uid,vs,x1,K1,hm,a1,a2,a3,a4,a5,a6⟩:=rep_focus hr tb;obtain⟨key2,uid2,nB,x2,K2,hx1,b1,b2,b3,b4,b5,b6⟩:=rep_focus a4 rb;rcases row_int b4 with⟨_,rfl,_⟩|⟨cS,iO,hx2,d1,d2⟩
 ·exact absurd ob (by simp)
 have o1:=qC a2;have o2:=qC b2;have o3:zk none (List.drop pl.toNat (row.map enc))=some (iI old):=qC (by rw[gF,ob]; rfl);have sY:List.take pl.toNat (row.map enc)++[iI z]++List.drop (pl.toNat+1) (row.map enc)=List.map enc row':=s5;simp only at a1 b1 d1;have k1:key < E.length:=gA a1;have k2:key2 < E.length:=gA b1;have k3:cS < E.length:=gA d1;have p1:∀x,(E++[x])[key]? =some (uid,some vs):=fun x=>(gB k1).trans a1;have p2:∀x,(E++[x])[key2]? =some (uid2,some nB):=fun x=>(gB k2).trans b1;have p3:∀x,(E++[x])[cS]? =some (iO,some (row.map enc)):=fun x=>(gB k3).trans d1;simp only[simprocAttr,R0,b75,hl_0,h0,h1,h2,h3,h4,qw,hm,wi,ta,eq_true tc,p1,o1,hx1,ra,eq_true rc,p2,o2,hx2,oa,eq_true oc,p3,o3,wa,wb0,wb,wd,wz,s3,sY];rw[←hm];have q:∀k,k≠cS→k < E.length→((E++[(c,some [iI p,dv,m])]).set cS (iO,some (List.map enc row')))[k]? =E[k]?:=fun k h1 h2=> qL h1 h2;have r0:Deep.rep ⟨(E++[(c,some [iI p,dv,m])]).set cS (iO,some (List.map enc row')),c+1⟩ x2 row' K2:=by
  rw[hx2,←s4]; exact zY (ql (by simp; omega)) d2
 have r1:=b6 _ _ r0 (fun k hk nk=> q k (fun e=> nk ((d2 k).2 e)) (Deep.bd a4 hk));rw[←st]at r1;have r2:=a6 _ _ r1 (fun k hk nk=> q k (fun e=> nk (b5 k ((d2 k).2 e))) (Deep.bd hr hk));rw[←sm]at r2;refine ai (fun _=> trivial) ⟨?_,r2,fun k hk nk=> q k (fun e=> nk (a5 k (b5 k ((d2 k).2 e)))) hk,by simp⟩;simp only[simprocAttr,R1,qg,p75,mapO];rfl
def F85{σ:Type}(ms:L3)(f:Int→Int→Int→Int→σ→Option σ)(s:σ):Option σ:=
 forR 0 (ms.length:Int) (fun k s=>(getI ms k).bind fun rows=>(forR 0 (rows.length:Int) (fun i s=>(getI rows i).bind fun row=>
  (forR 0 (row.length:Int) (fun j s=>(getI row j).bind fun v=>(chk (k+1)).bind fun n=>(f n i j v s).bind fun s'=> some (.inl s')) (fun _ s=> some s) s).bind fun s'=> some (.inl s')) (fun _ s=> some s) s).bind fun s'=> some (.inl s')) (fun _ s=> some s) s
structure Step4 (g:Nat) (fs cs:List V) {σ:Type} (S:σ→List (nO)→Prop) (f:Int→Int→Int→Int→σ→Option σ):Prop where
 call:∀n r p v s s',f n r p v s=some s'→∀E c,S s E→∃E' c',res A g (fs++[iI n,iI r,iI p,iI v]++cs) ⟨E,c⟩=some (V.undef,⟨E',c'⟩)∧S s' E'
 pad:∀s E x,S s E→S s (E++[x])
set_option maxHeartbeats 8000000 in
theorem e85{g:Nat}{fs cs:List V}{σ:Type}{S:σ→List (nO)→Prop}{f:Int→Int→Int→Int→σ→Option σ}(st:Step4 g fs cs S f)(x:qe){s s':σ}(hF:F85 x.M f s=some s')(E:List (nO))(c:Nat)(hS:S s E):
  ∃h',res A 85 [V.agg [iI x.P,V.isl (List.map enc x.D),V.isl (List.map enc x.M)],V.fn g fs cs] ⟨E,c⟩=some (V.undef,h')∧S s' h'.ents:=by
 refine res_ex (f:=p85) rfl rfl rfl fun e hl he=>?_;have h0:e.at 0=V.agg [iI x.P,V.isl (List.map enc x.D),V.isl (List.map enc x.M)]:=he 0 _ rfl;have h1:e.at 1=V.fn g fs cs:=he 1 _ rfl;have hl_0:e.length=42:=hl;clear he hl;show W A b85 e ⟨E,c⟩ _;unfold F85 at hF;simp only[simprocAttr, -Int.reduceNatCast',R0,b85,h0,h1,qw,jJ, *];show W A (.block 0 (.loop true b85_1)) _ _ _;rw[qp];refine qF hF _ rfl (fun i s e h=> S s h.ents∧e.length=42∧e.at 1=V.fn g fs cs∧e.at 11=V.isl (List.map enc x.M)∧e.at 12=iI (x.M.length:Int)∧e.at 13=iI i) ?_ ?_ ?_
 ·refine ai (st.pad _ _ _ hS) ?_
  simp only[simprocAttr, -Int.reduceNatCast',R0,h0,h1, *]
 ·rintro i s e ⟨E,c⟩ ⟨hS,hl_1,aR,aT,bN,bW⟩ hlt hw o ho
  obtain⟨rows,g1,ho⟩:=bS ho;obtain⟨w1a,w1b⟩:=qm g1;obtain⟨z,g2,ho⟩:=bS ho;have hE:=wA ho; subst hE;simp only[simprocAttr, -Int.reduceNatCast',R0,b85_1, *];refine W.mono (Q:=fun x' e h=> x'= .normal∧S z h.ents∧e.length=42∧e.at 1=V.fn g fs cs∧e.at 11=V.isl (List.map enc x.M)∧e.at 12=iI (x.M.length:Int)∧e.at 13=iI i) ?_ ?_
  rotate_left
  ·rintro _ e ⟨E2,c2⟩ ⟨rfl,hS2,hl_2,nH,pK,fb,ez⟩
   simp only[simprocAttr, -Int.reduceNatCast',R0, *];refine ai rfl (ai hS2 ?_);simp only[simprocAttr, -Int.reduceNatCast',R0, *]
  show W A (.block 2 (.loop true b85_2)) _ _ _;rw[qp];refine qF g2 _ rfl (fun j s e h=> S s h.ents∧e.length=42∧e.at 1=V.fn g fs cs∧e.at 11=V.isl (List.map enc x.M)∧e.at 12=iI (x.M.length:Int)∧e.at 13=iI i∧e.at 4=iI i∧e.at 18=V.isl (List.map enc rows)∧e.at 19=iI (rows.length:Int)∧e.at 20=iI j) ?_ ?_ ?_
  ·refine ai hS ?_
   simp only[simprocAttr, -Int.reduceNatCast',R0, *]
  ·clear hl_1 aR aT bN bW
   rintro j s e ⟨E,c⟩ ⟨hS,hl_1,aR,aT,bN,bW,aQ,mE,mD,mC⟩ nG sK o ho;obtain⟨row,g3,ho⟩:=bS ho;obtain⟨w3a,na⟩:=qm g3;obtain⟨z2,g4,ho⟩:=bS ho;have hE:=wA ho; subst hE;simp only[simprocAttr, -Int.reduceNatCast',R0,b85_2, *];refine W.mono (Q:=fun x' e h=> x'= .normal∧S z2 h.ents∧e.length=42∧e.at 1=V.fn g fs cs∧e.at 11=V.isl (List.map enc x.M)∧e.at 12=iI (x.M.length:Int)∧e.at 13=iI i∧e.at 4=iI i∧e.at 18=V.isl (List.map enc rows)∧e.at 19=iI (rows.length:Int)∧e.at 20=iI j) ?_ ?_
   rotate_left
   ·rintro _ e ⟨E2,c2⟩ ⟨rfl,hS2,hl_2,nH,pK,fb,ez,lR,h18_2,h19_2,h20_2⟩
    simp only[simprocAttr, -Int.reduceNatCast',R0, *];refine ai rfl (ai hS2 ?_);simp only[simprocAttr, -Int.reduceNatCast',R0, *]
   show W A (.block 4 (.loop true b85_3)) _ _ _;rw[qp];refine qF g4 _ rfl (fun k s e h=> S s h.ents∧e.length=42∧e.at 1=V.fn g fs cs∧e.at 11=V.isl (List.map enc x.M)∧e.at 12=iI (x.M.length:Int)∧e.at 13=iI i∧e.at 4=iI i∧e.at 18=V.isl (List.map enc rows)∧e.at 19=iI (rows.length:Int)∧e.at 20=iI j∧e.at 6=iI j∧e.at 25=V.isl (List.map enc row)∧e.at 26=iI (row.length:Int)∧e.at 27=iI k) ?_ ?_ ?_
   ·refine ai hS ?_
    simp only[simprocAttr, -Int.reduceNatCast',R0, *]
   ·clear hl_1 aR aT bN bW aQ mE mD mC
    rintro k s e ⟨E,c⟩ ⟨hS,hl_1,aR,aT,bN,bW,aQ,mE,mD,mC,aO,uX,uW,eX⟩ nF rO o ho;obtain⟨v,g5,ho⟩:=bS ho;obtain⟨sS,sR⟩:=qm g5;obtain⟨n,g6,ho⟩:=bS ho;have w6:=qD g6;obtain⟨s2,g7,ho⟩:=bS ho;have hE:=wA ho; subst hE;obtain⟨E2,c2,hr,hS2⟩:=st.call _ _ _ _ _ _ g7 E c hS;simp only[simprocAttr, -Int.reduceNatCast',R0,b85_3,hl_1,aR,aT,bN,bW,aQ,mE,mD,mC,aO,uX,uW,eX,eq_true nF,rO,sS,sR,w6,qQ,wO]at hr ⊢;simp only[simprocAttr, -Int.reduceNatCast',R0,hr, *];refine ai rfl (ai hS2 ?_);simp only[simprocAttr, -Int.reduceNatCast',R0, *]
   ·clear hl_1 aR aT bN bW aQ mE mD mC
    rintro k s e ⟨E,c⟩ ⟨hS,hl_1,aR,aT,bN,bW,aQ,mE,mD,mC,aO,uX,uW,eX⟩ hge t1 ho;have hE:=wA ho; subst hE;simp only[simprocAttr, -Int.reduceNatCast',R0,b85_3, *];intro ht; subst ht;exact hS
  ·clear hl_1 aR aT bN bW
   rintro j s e ⟨E,c⟩ ⟨hS,hl_1,aR,aT,bN,bW,aQ,mE,mD,mC⟩ hge t1 ho;have hE:=wA ho; subst hE;simp only[simprocAttr, -Int.reduceNatCast',R0,b85_2, *];intro ht; subst ht;exact hS
 ·rintro i s e ⟨E,c⟩ ⟨hS,hl_1,aR,aT,bN,bW⟩ hge t1 ho
  have hE:=wA ho; subst hE;simp only[simprocAttr, -Int.reduceNatCast',R0,b85_1, *];intro ht; subst ht;refine ai (fun i=> by simp only[ne_eq,reduceCtorEq,not_false_eq_true]) (ai ?_ hS);simp only[simprocAttr, -Int.reduceNatCast',R1,qg,p85,mapO];rfl
def F96(a0:L1):Option L1:=app 8 [] a0
theorem t96(a0:L1){r:L1}(hF:F96 a0=some r):tans A 96 [1] [iL a0]=some (enc r):=clone_tans rfl hF
def F57(x:qe):Option qe:=
 (F96 x.D).bind fun d=>(F74 x.P d).bind fun b=>(F85 x.M (fun n r pl v s=> F75 b.P n r pl v s) b.M).bind fun ms=> some ⟨b.P,b.D,ms⟩
def S57(p:Int)(dv m:V)(N c1:Nat)(K:Ks)(R:List (nO)→Prop)(s:L3)(E:List (nO)):Prop:=
 Deep.rep ⟨E,0⟩ m s K∧R E∧E[N]? =some (c1,some [iI p,dv,m])
theorem st57(p:Int)(dv m:V)(N c1:Nat)(K:Ks)(R:List (nO)→Prop)(hN:¬K N)(hR:∀E E',R E→(∀k,k < E.length→¬K k→E'[k]? =E[k]?)→R E'):Step4 75 [V.agg [iI p,dv,m]] [] (S57 p dv m N c1 K R) (fun n r pl v s=> F75 p n r pl v s) where
 call:=by
  rintro n r pl v s s' hF E c ⟨h1,h2,h3⟩;have r1:Deep.rep ⟨E,c⟩ m s K:=Deep.frame h1 fun _ _=> rfl;obtain⟨⟨E',c'⟩,q1,q2,q3,q4⟩:=d75 (dv:=dv) hF E c r1;exact⟨E',c',q1,Deep.frame q2 fun _ _=> rfl,hR E E' h2 q3,(q3 N (gA h3) hN).trans h3⟩
 pad:=by
  rintro s E x ⟨h1,h2,h3⟩;exact⟨Deep.frame h1 fun k q=> gB (Deep.bd h1 q),hR E _ h2 fun k q _=> gB q,(gB (gA h3)).trans h3⟩
theorem d57(x:qe){r:qe}(hF:F57 x=some r):∃v h',res A 57 [(eC x)] Heap.empty=some (v,h')∧∃K,Deep.rep h' v r K:=by
 refine xp (f:=p57) rfl rfl rfl fun e hl he=>?_;have aA:=he 0 _ rfl;have hl_0:e.length=15:=hl;clear he hl;show W A b57 e ⟨[],0⟩ _;unfold F57 at hF;obtain⟨d,gd,hF⟩:=bS hF;have wd:=t96 x.D gd;obtain⟨o,go,hF⟩:=bS hF;obtain⟨ms,gt,hF⟩:=bS hF;cases hF;obtain⟨_,⟨E1,c1⟩,w1,e1,e2,m,K,rfl,t1,t2,t3,t4⟩:=d74 x.P d go [(0,none),(1,some [iI 0,V.nils,V.nils]),(2,some (d.map enc))] 3 (dk:=2) (du:=2) rfl;simp only[vJ,vG,wX,Nat.reduceAdd]at t2 t3 t4;have m1:E1[1]? =some (1,some [iI 0,V.nils,V.nils]):=t3 1 (by decide);have m2:E1[2]? =some (2,some (d.map enc)):=t3 2 (by decide);obtain⟨⟨E2,c2⟩,w2,q1,q2,q3⟩:=e85 (st57 o.P (V.sl 2 2 0 d.length 1) m E1.length c1 K (fun E=> E[1]? =some (1,some [iI 0,V.nils,V.nils])∧E[2]? =some (2,some (d.map enc))) (fun q=> by have:=Deep.bd t1 q; simp at this)
  (fun E E' h hk=>⟨(hk 1 (gK.1 h.1).1 (fun q=> by have:=t2 _ q; omega)).trans h.1,(hk 2 (gK.1 h.2).1 (fun q=> by have:=t2 _ q; omega)).trans h.2⟩)) x gt (E1++[(c1,some [iI o.P,V.sl 2 2 0 d.length 1,m])]) (c1+1) ⟨Deep.frame t1 fun k q=> gB (Deep.bd t1 q),⟨by rw[gB (by omega)]; exact m1,by rw[gB (by omega)]; exact m2⟩,qw _ _⟩
 obtain⟨q2,q4⟩:=q2;simp only at q2 q3 q4;simp only[simprocAttr,R0,b57,hl_0,aA,wd,w1,zm,qw,jJ,qQ,w2,q2,q3];have hE0:1 < E2.length:=gA q2;refine ai (fun _=> trivial) ⟨V.agg [iI o.P,V.sl 2 2 0 d.length 1,m],by simp only[simprocAttr,R0,qg,p57,Rs.ev,hl_0,ql hE0],_,_,rfl,rec3 (K1:=fun k=> k=2) (K2:=K) ?_ (Deep.frame q1 fun k q=> qi (by have:=t2 _ q; omega)) (fun k p q=> by have:=t2 _ q; omega)⟩;have hq:(E2.set 1 (1,some [iI o.P,V.sl 2 2 0 d.length 1,m]))[2]? =some (2,some (d.map enc)):=(qi (by decide)).trans q4;show Deep.rep _ _ o.D _;rw[e2];exact zY hq fun k=> vY
theorem x57(x:qe){r:qe}(hF:F57 x=some r):tans A 57 [1,1,1] [(eC x)]=some (enc r):=ju (α:=qe) (by decide) (d57 x hF)
def F58(l:L1)(n:Int):Option L1:=match l with
 | [q]=> if 0≤n∧n≤8 then some (List.replicate n.toNat q)else none
 |_=> none
theorem r58{l:L1}{n:Int}{r:L1}(hF:F58 l n=some r):∃ (q:Int) (m:Nat),m < 9∧l=[q]∧n=m∧r=List.replicate m q:=by
 unfold F58 at hF;split at hF
 ·rename_i q
  split at hF
  ·rename_i hn; cases hF
   exact⟨q,n.toNat,by omega,rfl,by omega,rfl⟩
  ·cases hF
 ·cases hF
theorem t58(l:L1)(n:Int){r:L1}(hF:F58 l n=some r):tans A 58 [1] [iL l,iI n]=some (enc r):=by
 obtain⟨q,m,hm,rfl,rfl,rfl⟩:=r58 hF;refine tans_run 20 ?_
 match m,hm with
 |0,_=> show _=some _; kernel_rfl
 |1,_=> show _=some _; kernel_rfl
 |2,_=> show _=some _; kernel_rfl
 |3,_=> show _=some _; kernel_rfl
 |4,_=> show _=some _; kernel_rfl
 |5,_=> show _=some _; kernel_rfl
 |6,_=> show _=some _; kernel_rfl
 |7,_=> show _=some _; kernel_rfl
 |8,_=> show _=some _; kernel_rfl
def F24_1_B(a0:qe)(a1:Int)(i:Int)(s:aJ):Option (aJ⊕aJ):=(getI a0.D i).bind fun d=>(F58 [a1] d).bind fun r=>(app 24 s [r]).bind fun l=> some (.inl l)
def F24_1_D(a0:qe)(a1:Int)(i:Int)(s:aJ):Option aJ:=some s
def F24(a0:qe)(a1:Int):Option (T2 qc Int):=
 (F42 a0).bind fun b=> if b=true then(F56 a1 0 5).bind fun c=> if c=true then(F57 a0).bind fun o=>(forR 0 (a0.D.length:Int) (F24_1_B a0 a1) (F24_1_D a0 a1) []).bind fun lv=> some ⟨⟨o,lv⟩,0⟩else some ⟨⟨⟨0,[],[]⟩,[]⟩,2⟩else some ⟨⟨⟨0,[],[]⟩,[]⟩,1⟩
set_option maxHeartbeats 8000000 in
theorem d24(a0:qe)(a1:Int){r:T2 qc Int}(hF:F24 a0 a1=some r):∃v h',res A 24 [(eC a0),iI a1] Heap.empty=some (v,h')∧∃vs K,v=V.tup vs∧repF h' vs [⟨r.a⟩,⟨r.b⟩] K:=by
 refine xp (f:=p24) rfl rfl rfl fun e hl he=>?_;have aA:=he 0 _ rfl;have aB:=he 1 _ rfl;have hl_0:e.length=40:=hl;clear he hl;have h_0:=ai hl_0 (ai aA aB);show W A b24 e ⟨[],0⟩ _;unfold F24 at hF;have zr:∀h,Deep.rep h (V.agg [iI 0,V.nils,V.nils,V.nils]) (⟨⟨0,[],[]⟩,[]⟩:qc) _:=fun h=>⟨_,rfl,rec4 (xf h) (xf h) (xf h) (fun _ x _=> x) (fun _ x _=> x) (fun _ x _=> x)⟩;obtain⟨b,gb,hF⟩:=bS hF;have wb:ans A 42 [(eC a0)]=some (V.bool b):=s42 a0 gb;cases b with
 |false=>
  rw[if_neg wD]at hF;cases hF;simp only[simprocAttr,R0,b24, *];refine ai (fun _=> trivial) ⟨V.tup [V.agg [iI 0,V.nils,V.nils,V.nils],iI 1],?_,_,_,rfl,ks (α:=qc) (zr _) _⟩;simp only[simprocAttr,R0,qg,p24,Rs.ev, *]
 |true=>
  rw[if_pos rfl]at hF;obtain⟨b2,gb2,hF⟩:=bS hF;have wb2:ans A 56 [iI a1,iI 0,iI 5]=some (V.bool b2):=s56 a1 0 5 gb2;cases b2 with
  |false=>
   rw[if_neg wD]at hF;cases hF;simp only[simprocAttr,R0,b24, *];refine ai (fun _=> trivial) ⟨V.tup [V.agg [iI 0,V.nils,V.nils,V.nils],iI 2],?_,_,_,rfl,ks (α:=qc) (zr _) _⟩;simp only[simprocAttr,R0,qg,p24,Rs.ev, *]
  |true=>
   rw[if_pos rfl]at hF;obtain⟨o,go,hF⟩:=bS hF;obtain⟨lv,gt,hF⟩:=bS hF;cases hF;have wo:=x57 a0 go;obtain⟨_,⟨E1,c1⟩,t1,⟨_,rfl,t2⟩,t3,t4⟩:=thaw_deep (α:=qe) (by decide) o ⟨[(0,none),(1,some [iI 0,V.nils,V.nils,V.nils])],2⟩;obtain⟨dv,m,K1,K2,rfl,t5,t6,t7,t8⟩:=rec3_un t2;simp only[vJ,vG,wX,Nat.reduceAdd]at t3 t4 t8;have t1':thaw 16 [1,1,1] ((eC o)) ⟨[(0,none),(1,some [iI 0,V.nils,V.nils,V.nils])],2⟩=some (V.agg [iI o.P,dv,m],⟨E1,c1⟩):=t1;have b1:∀k,K1 k→2≤k∧k < E1.length:=fun k q=>(t8 k).2 (.inl q);have b2:∀k,K2 k→2≤k∧k < E1.length:=fun k q=>(t8 k).2 (.inr q);have m1:E1[1]? =some (1,some [iI 0,V.nils,V.nils,V.nils]):=t4 1 (by decide);simp only[simprocAttr,R0,b24,qK,t1',qw,jJ, *];show W A (.block 1 (.loop true b24_1)) _ _ _;rw[qp];refine qF gt _ rfl (fun i s e h=>∃w,∃K:Ks,Deep.rep h w s K∧h.ents[E1.length]? =some (c1,some [iI o.P,dv,m,w])∧(∀k,K k→E1.length+1≤k)∧(∀k,k < E1.length→h.ents[k]? =E1[k]?)∧e.length=40∧e.at 1=iI a1∧e.at 4=V.ptr 1 1 0∧e.at 6=V.ptr E1.length c1 0∧e.at 23=iL a0.D∧e.at 24=iI (a0.D.length:Int)∧e.at 25=iI i) ?_ ?_ ?_
   ·refine⟨V.nils,fun _=> False,xf _,qw _ _,fun _ x=> x.elim,fun k q=> gB q,?_⟩
    simp only[simprocAttr,R0, *]
   ·clear hl_0 aA aB
    rintro i s e ⟨E,c⟩ ⟨w,K,g1,g2,g3,g4,h_1⟩ hlt hw s' ho;unfold F24_1_B at ho;simp only at g2 g4;obtain⟨d,gd,ho⟩:=bS ho;obtain⟨wd1,wd2⟩:=qm gd;obtain⟨rr,gr,ho⟩:=bS ho;obtain⟨l,gl,ho⟩:=bS ho;cases ho;have hN:E1.length < E.length:=gA g2;have wr:tans A 58 [1] [V.isl [iI a1],iI d]=some (iL rr):=t58 [a1] d gr;have wfz:frz ⟨E++[(c,some [iI a1])],c+1⟩ 16 (V.sl E.length c 0 1 1)=some (V.isl [iI a1]):=frz_row (l:=[a1]) (qw _ _);have wbr:=bare_one (α:=Int) rr;have pre:∀x y z k,k < E.length→(E++[x]++[y]++[z])[k]? =E[k]?:=fun x y z k q=> by rw[wO,wO]; exact gB q
    have rf:∀x,(E++[x])[E1.length]? =some (c1,some [iI o.P,dv,m,w]):=fun x=>(gB hN).trans g2;obtain⟨w',E',c',K',p1,p2,p3,p4,p5⟩:=xl (E:=E++[(c,some [iI a1])]++[(c+1,some (rr.map enc))]++[(c+1+1,some [V.sl (E.length+1) (c+1) 0 rr.length 1])]) (c:=c+1+1+1) (Deep.frame g1 fun k q=> pre _ _ _ k (Deep.bd g1 q)) (zY (l:=rr) (K:=fun k=> k=E.length+1) (ge3b ..) (fun k=> vY)) (fun k q e=> by have:=Deep.bd g1 q; simp only at this; omega) gl;have tA:∀x y z:nO,(E++[x]++[y]++[z]).length=E.length+3:=fun x y z=> by simp
    rw[tA]at p3 p4 p5;obtain⟨v1,v2⟩:=rep_one p2;have m6:E'[E1.length]? =some (c1,some [iI o.P,dv,m,w]):=(p4 _ (by omega) (fun q=> by have:=g3 _ q; omega)).trans ((pre _ _ _ _ hN).trans g2);simp only[simprocAttr,R0,b24_1,rf,qK,zm,le1,qw,ge2a,ge2b,ge3a,ge3b,ge3c,p1,m6,v1,v2, *];refine ai rfl ⟨w',K',Deep.frame p2 fun k q=> qi ?_,ql (by omega),?_,fun k q=>?_,?_⟩
    ·rcases p3 k q with q|q|q
     ·have:=g3 k q; omega
     ·omega
     ·omega
    ·intro k q
     rcases p3 k q with q|q|q
     ·exact g3 k q
     ·omega
     ·omega
    ·exact(qi (by omega)).trans ((p4 k (by omega) (fun q2=> by have:=g3 k q2; omega)).trans ((pre _ _ _ k (by omega)).trans (g4 k q)))
    ·simp only[simprocAttr,R0, *]
   ·clear hl_0 aA aB
    rintro i s e ⟨E,c⟩ ⟨w,K,g1,g2,g3,g4,h_1⟩ hge t1 ho;unfold F24_1_D at ho;cases ho;simp only at g2 g4;have hN:E1.length < E.length:=gA g2;have m4:E[1]? =some (1,some [iI 0,V.nils,V.nils,V.nils]):=(g4 1 (by omega)).trans m1;simp only[simprocAttr,R0,b24_1,m4, *];intro ht; subst ht;have fin:∀z,Deep.rep ⟨E.set 1 z,c⟩ (V.agg [iI o.P,dv,m,w]) (⟨o,s⟩:qc) (fun k=> K1 k∨K2 k∨K k):=fun z=>⟨_,rfl,rec4 (Deep.frame t5 fun k q=>(qi (by have:=b1 k q; omega)).trans (g4 k (b1 k q).2)) (Deep.frame t6 fun k q=>(qi (by have:=b2 k q; omega)).trans (g4 k (b2 k q).2)) (Deep.frame g1 fun k q=> qi (by have:=g3 k q; omega)) t7 (fun k y z=> by have:=b1 k y; have:=g3 k z; omega) (fun k y z=> by have:=b2 k y; have:=g3 k z; omega)⟩;refine ai (fun _=> trivial) ⟨V.tup [V.agg [iI o.P,dv,m,w],iI 0],?_,_,_,rfl,ks (fin _) _⟩;simp only[simprocAttr,R0,qg,p24,Rs.ev,ql (show 1 < E.length by omega), *]
theorem x24(a0:qe)(a1:Int){r:T2 qc Int}(hF:F24 a0 a1=some r):tans A 24 [1,1,1] [(eC a0),iI a1]=some (V.tup [enc r.a,iI r.b]):=by
 obtain⟨_,h',h1,vs,K,rfl,h2⟩:=d24 a0 a1 hF;exact tans_tup (fits_pair rfl (by decide)) h1 h2
theorem s24(a0:qe)(a1:Int){r:T2 qc Int}(hF:F24 a0 a1=some r):ans A 24 [(eC a0),iI a1]=some (EncR.enc r):=by
 obtain⟨_,h',h1,vs,K,rfl,h2⟩:=d24 a0 a1 hF;exact ans_tup (ss:=[1,1,1]) (fits_pair rfl (by decide)) h1 h2
def F83(a0:Int):Option Bool:=
 (F56 a0 0 5).bind fun x1=>
 some (!x1)
theorem s83(a0:Int){r:Bool}(hF:F83 a0=some r):ans A 83 [iI a0]=some (enc r):=by
 refine qB (f:=p83) rfl rfl rfl fun e hl he=>?_;have aA:=he 0 _ rfl;have hl_0:e.length=6:=hl;clear he hl;show W A b83 e ⟨[],0⟩ _;unfold F83 at hF;obtain⟨x1,bD,hF⟩:=bS hF;have w2:=s56 a0 0 5 bD;cases hF;simp only[simprocAttr,R0,b83, *];exact qh (by simp only[simprocAttr,R0,qg,p83,Rs.ev,qd, *])
def F84(a0:Int)(a1:Int)(a2:Int)(a3:Int)(d0:Bool)(d1:qc):Option Bool:=
 if d0=true then
  if a3=0 then
   some true
  else
   (chk (a0 - 1)).bind fun x2=>
   (getI d1.L x2).bind fun x3=>
   (getI x3 a2).bind fun x5=>
   (getI d1.L a0).bind fun x7=>
   (getI x7 a1).bind fun x9=>
   some (decide (x5≤x9))
 else
  some false
theorem q84(r0:nO)(r1:nO)(uid clk:Nat)(G:List (nO))(a0:Int)(a1:Int)(a2:Int)(a3:Int)(d0:Bool)(d1:qc){r:Bool}(hF:F84 a0 a1 a2 a3 d0 d1=some r):res A 84 [iI a0,iI a1,iI a2,iI a3,V.ptr 2 uid 0,eQ d1] ⟨r0::r1::(uid,some [V.bool d0])::G,clk⟩=some (V.undef,⟨r0::r1::(uid,some [V.bool r])::G,clk⟩):=by
 refine res_of (f:=p84) rfl rfl rfl fun e hl he=>?_;have aA:=he 0 _ rfl;have aB:=he 1 _ rfl;have aU:=he 2 _ rfl;have cX:=he 3 _ rfl;have oH:=he 4 _ rfl;have oG:=he 5 _ rfl;have hl_0:e.length=35:=hl;clear he hl;have h_0:=ai hl_0 (ai aA (ai aB (ai aU (ai cX (ai oH oG)))));show W A b84 e _ _;unfold F84 at hF;cases d0 with
 |true=>
  rw[if_pos rfl]at hF;by_cases c1:a3=0
  ·rw[if_pos c1]at hF
   cases hF;simp only[simprocAttr,R0,b84, *];refine rfin_normal ?_ ?_
   ·simp only[simprocAttr,R0,qg,p84,mapO]; rfl
   ·simp only[simprocAttr,R0, *]
  ·rw[if_neg c1]at hF
   obtain⟨x2,iS,hF⟩:=bS hF;have d7:=qD iS;obtain⟨x3,dN,hF⟩:=bS hF;obtain⟨aq,v5⟩:=qm dN;obtain⟨x5,dB,hF⟩:=bS hF;obtain⟨lH,lG⟩:=qm dB;obtain⟨x7,dQ,hF⟩:=bS hF;obtain⟨nV,mZ⟩:=qm dQ;obtain⟨x9,fR,hF⟩:=bS hF;obtain⟨nZ,nY⟩:=qm fR;cases hF;simp only[simprocAttr,R0,b84, *];refine rfin_normal ?_ ?_
   ·simp only[simprocAttr,R0,qg,p84,mapO]; rfl
   ·simp only[simprocAttr,R0, *]
 |false=>
  rw[if_neg wD]at hF;cases hF;simp only[simprocAttr,R0,b84, *];refine rfin_normal ?_ ?_
  ·simp only[simprocAttr,R0,qg,p84,mapO]; rfl
  ·simp only[simprocAttr,R0, *]
def F41_1_B(a0:qc)(cQ:Int)(s:Unit):Option ((Unit)⊕((Unit)⊕Bool)):=
 (getI a0.L cQ).bind fun x7=>
(getI a0.C.D cQ).bind fun bC=>
if(x7.length:Int)=bC then
 (F82 x7 (fun x=> F83 x)).bind fun cW=>
 if cW=true then
  some (.inr (.inr false))
 else
  some (.inl ())
else
 some (.inr (.inr false))
def F41_1_D(a0:qc)(cQ:Int)(s:Unit):Option ((Unit)⊕Bool):=
 some (.inl ())
def F41(a0:qc):Option Bool:=
 (F42 a0.C).bind fun x1=>
 if x1=true then
  if(a0.L.length:Int)=(a0.C.D.length:Int)then
   (forR 0 (a0.L.length:Int) (F41_1_B a0) (F41_1_D a0) ()).bind fun pq=> match pq with
    | .inl _=>
     (F85 a0.C.M (fun n r p v s=> F84 n r p v s a0) true).bind fun gZ=>
     some gZ
    | .inr cx=> some cx
  else
   some false
 else
  some false
def I41_1(a0:qc)(cQ:Int)(s:Unit)(e:Env)(h:Heap):Prop:=
 ∃k5:Nat,h=⟨[(0,none),(1,some [iI a0.C.P,iL a0.C.D,iL a0.C.M])],k5⟩∧e.length=46∧e.at 1=eQ a0∧e.at 3=V.ptr 1 1 0∧e.at 22=iL a0.L∧e.at 23=iI (a0.L.length:Int)∧e.at 24=iI cQ
def P41_1(a0:qc)(t:(Unit)⊕Bool)(x:Ex)(e:Env)(h:Heap):Prop:=
 match t with
 | .inl _=> x= .normal∧∃k5:Nat,h=⟨[(0,none),(1,some [iI a0.C.P,iL a0.C.D,iL a0.C.M])],k5⟩∧e.length=46∧e.at 1=eQ a0∧e.at 3=V.ptr 1 1 0
 | .inr r=> x= .ret∧Fin p41 (enc r) .ret e h
theorem l41_1(a0:qc){lo:Int}{s:Unit}{t:(Unit)⊕Bool}(hF:forR lo (a0.L.length:Int) (F41_1_B a0) (F41_1_D a0) s=some t){e:Env}{h:Heap}(hI:I41_1 a0 lo s e h):W A c41_1 e h (P41_1 a0 t):=by
 show W A (.block 0 (.loop false b41_1)) e h _;rw[qp];refine qF hF 2 (by obtain⟨_,rfl,_⟩:=hI; rfl) (I41_1 a0) hI ?_ ?_
 ·rintro cQ _ e h ⟨k5,rfl,h_4⟩ hlt hw o ho
  unfold F41_1_B at ho;obtain⟨x7,dQ,ho⟩:=bS ho;obtain⟨nV,mZ⟩:=qm dQ;have rL:ans A 73 [iL x7]=some (iI (x7.length:Int)):=s73 x7 rfl;obtain⟨bC,dU,ho⟩:=bS ho;obtain⟨kV,kU⟩:=qm dU;by_cases sG:(x7.length:Int)=bC
  ·rw[if_pos sG]at ho
   obtain⟨cW,dY,ho⟩:=bS ho;have rA:ans A 82 [iL x7,V.fn 83 [] []]=some (V.bool cW):=s82 x7 (fun x=> F83 x) (Clo1.of (by intro h f; simp only[RZ,mapO]) (by intro h f; simp only[RZ,mapO]) (by intro f; simp only[RZ,RB]) (by intro f; simp only[RZ,RB]) (fun x _ hr=> s83 x hr)) dY;cases cW with
   |true=>
    rw[if_pos rfl]at ho;cases ho;simp only[simprocAttr,R0,b41_1, *];intro ht; subst ht;simp only[simprocAttr,RR,RB];exact ai rfl (qh (by simp only[simprocAttr,R0,qg,p41,Rs.ev,qd, *]))
   |false=>
    rw[if_neg wD]at ho;cases ho;simp only[simprocAttr,R0,b41_1, *];refine ai rfl (ei _ (ai rfl ?_));simp only[simprocAttr,R0, *]
  ·rw[if_neg sG]at ho
   cases ho;simp only[simprocAttr,R0,b41_1, *];intro ht; subst ht;simp only[simprocAttr,RR,RB];exact ai rfl (qh (by simp only[simprocAttr,R0,qg,p41,Rs.ev,qd, *]))
 ·rintro cQ _ e h ⟨k5,rfl,h_4⟩ hge t1 ho
  unfold F41_1_D at ho;cases ho;simp only[simprocAttr,R0,b41_1, *];intro ht; subst ht;refine ai rfl (ei _ (ai rfl ?_));simp only[simprocAttr,R0, *]
theorem s41(a0:qc){r:Bool}(hF:F41 a0=some r):ans A 41 [(eF a0)]=some (enc r):=by
 refine qB (f:=p41) rfl rfl rfl fun e hl he=>?_;have aA:=he 0 _ rfl;have hl_0:e.length=46:=hl;clear he hl;have h_0:=ai hl_0 aA;show W A b41 e ⟨[],0⟩ _;unfold F41 at hF;obtain⟨x1,bD,hF⟩:=bS hF;have w2:=s42 a0.C bD;cases x1 with
 |true=>
  rw[if_pos rfl]at hF;by_cases c3:(a0.L.length:Int)=(a0.C.D.length:Int)
  ·rw[if_pos c3]at hF
   obtain⟨pq,pU,hF⟩:=bS hF;rcases pq with _|cx
   ·dsimp only at hF
    simp only[simprocAttr,R0,b41, *];refine W.mono (l41_1 a0 pU (ei _ (ai rfl ?_))) ?_
    ·simp only[simprocAttr,R0, *]
    rintro _ e _ ⟨rfl,k5,rfl,h_6⟩;obtain⟨gZ,te,hF⟩:=bS hF;have pZ:=e85 (g:=84) (fs:=[]) (cs:=[V.ptr 2 k5 0,eQ a0]) (S:=(fun(s:Bool) E=>∃G,E=(0,none)::(1,some [iI a0.C.P,iL a0.C.D,iL a0.C.M])::(k5,some [V.bool s])::G)) (f:=(fun n r p v s=> F84 n r p v s a0)) ⟨fun n r p v s s' hs E c hS=>(by obtain⟨G,rfl⟩:=hS; exact⟨_,_,q84 (0,none) (1,some [iI a0.C.P,iL a0.C.D,iL a0.C.M]) k5 _ _ n r p v s a0 hs,G,rfl⟩),fun s E x hS=>(by obtain⟨G,rfl⟩:=hS; exact⟨G++[x],rfl⟩)⟩ a0.C te _ (k5+1) ⟨[],rfl⟩;obtain⟨⟨w18E,k20⟩,pZ,G19,bq⟩:=pZ;dsimp only at bq;subst bq;cases hF;simp only[simprocAttr,R0,qQ, *];exact qh (by simp only[simprocAttr,R0,qg,p41,Rs.ev,qd,qQ, *])
   ·dsimp only at hF
    cases hF;simp only[simprocAttr,R0,b41, *];refine W.mono (l41_1 a0 pU (ei _ (ai rfl ?_))) ?_
    ·simp only[simprocAttr,R0, *]
    rintro _ e h ⟨rfl,hq⟩;simp only[simprocAttr,RR,RB];exact hq
  ·rw[if_neg c3]at hF
   cases hF;simp only[simprocAttr,R0,b41, *];exact qh (by simp only[simprocAttr,R0,qg,p41,Rs.ev,qd, *])
 |false=>
  rw[if_neg wD]at hF;cases hF;simp only[simprocAttr,R0,b41, *];exact qh (by simp only[simprocAttr,R0,qg,p41,Rs.ev,qd, *])
def F140(a0:List U8):Option Bool:=
 some (decide (4096 < (a0.length:Int)))
theorem s140(a0:List U8){r:Bool}(hF:F140 a0=some r):ans A 140 [iL a0]=some (enc r):=by
 refine qB (f:=p140) rfl rfl rfl fun e hl he=>?_;have aA:=he 0 _ rfl;have hl_0:e.length=6:=hl;clear he hl;show W A b140 e ⟨[],0⟩ _;unfold F140 at hF;cases hF;simp only[simprocAttr,R0,b140, *];exact qh (by simp only[simprocAttr,R0,qg,p140,Rs.ev,qd, *])
def F156_1_B(a0:L1)(a1:L1)(bX:Int)(s:Unit):Option ((Unit)⊕((Unit)⊕Bool)):=
 (getI a0 bX).bind fun x5=>
(getI a1 bX).bind fun x7=>
if x5=x7 then
 some (.inl ())
else
 some (.inr (.inr false))
def F156_1_D(a0:L1)(a1:L1)(bX:Int)(s:Unit):Option ((Unit)⊕Bool):=
 some (.inl ())
def F156(a0:L1)(a1:L1):Option Bool:=
 if(a0.length:Int)=(a1.length:Int)then
  (forR 0 (a0.length:Int) (F156_1_B a0 a1) (F156_1_D a0 a1) ()).bind fun rN=> match rN with
   | .inl _=>
    some true
   | .inr uO=> some uO
 else
  some false
def I156_1(a0:L1)(a1:L1)(bX:Int)(s:Unit)(e:Env)(h:Heap):Prop:=
 ∃k3:Nat,h=⟨[],k3⟩∧e.length=26∧e.at 0=iL a0∧e.at 1=iL a1∧e.at 5=iI bX
def P156_1(a0:L1)(a1:L1)(t:(Unit)⊕Bool)(x:Ex)(e:Env)(h:Heap):Prop:=
 match t with
 | .inl _=> x= .normal∧∃k3:Nat,h=⟨[],k3⟩∧e.length=26
 | .inr r=> x= .ret∧Fin p156 (enc r) .ret e h
theorem l156_1(a0:L1)(a1:L1){lo:Int}{s:Unit}{t:(Unit)⊕Bool}(hF:forR lo (a0.length:Int) (F156_1_B a0 a1) (F156_1_D a0 a1) s=some t){e:Env}{h:Heap}(hI:I156_1 a0 a1 lo s e h):W A c156_1 e h (P156_1 a0 a1 t):=by
 show W A (.block 0 (.loop false b156_1)) e h _;rw[qp];refine qF hF 0 (by obtain⟨_,rfl,_⟩:=hI; rfl) (I156_1 a0 a1) hI ?_ ?_
 ·rintro bX _ e h ⟨k3,rfl,h_2⟩ hlt hw o ho
  unfold F156_1_B at ho;obtain⟨x5,dB,ho⟩:=bS ho;obtain⟨lH,lG⟩:=qm dB;obtain⟨x7,dQ,ho⟩:=bS ho;obtain⟨nV,mZ⟩:=qm dQ;by_cases c9:x5=x7
  ·rw[if_pos c9]at ho
   cases ho;simp only[simprocAttr,R0,b156_1, *];refine ai rfl (ei _ (ai rfl ?_));simp only[simprocAttr,R0, *]
  ·rw[if_neg c9]at ho
   cases ho;simp only[simprocAttr,R0,b156_1, *];intro ht; subst ht;simp only[simprocAttr,RR,RB];exact ai rfl (qh (by simp only[simprocAttr,R0,qg,p156,Rs.ev,qd, *]))
 ·rintro bX _ e h ⟨k3,rfl,h_2⟩ hge t1 ho
  unfold F156_1_D at ho;cases ho;simp only[simprocAttr,R0,b156_1, *];intro ht; subst ht;refine ai rfl (ei _ (ai rfl ?_));simp only[simprocAttr,R0, *]
theorem s156(a0:L1)(a1:L1){r:Bool}(hF:F156 a0 a1=some r):ans A 156 [iL a0,iL a1]=some (enc r):=by
 refine qB (f:=p156) rfl rfl rfl fun e hl he=>?_;have aA:=he 0 _ rfl;have aB:=he 1 _ rfl;have hl_0:e.length=26:=hl;clear he hl;have h_0:=ai hl_0 (ai aA aB);show W A b156 e ⟨[],0⟩ _;unfold F156 at hF;by_cases c1:(a0.length:Int)=(a1.length:Int)
 ·rw[if_pos c1]at hF
  obtain⟨rN,nM,hF⟩:=bS hF;rcases rN with _|uO
  ·dsimp only at hF
   simp only[simprocAttr,R0,b156, *];refine W.mono (l156_1 a0 a1 nM (ei _ (ai rfl ?_))) ?_
   ·simp only[simprocAttr,R0, *]
   rintro _ e _ ⟨rfl,k3,rfl,hl_4⟩;cases hF;simp only[simprocAttr,R0, *];exact qh (by simp only[simprocAttr,R0,qg,p156,Rs.ev,qd, *])
  ·dsimp only at hF
   cases hF;simp only[simprocAttr,R0,b156, *];refine W.mono (l156_1 a0 a1 nM (ei _ (ai rfl ?_))) ?_
   ·simp only[simprocAttr,R0, *]
   rintro _ e h ⟨rfl,hq⟩;simp only[simprocAttr,RR,RB];exact hq
 ·rw[if_neg c1]at hF
  cases hF;simp only[simprocAttr,R0,b156, *];exact qh (by simp only[simprocAttr,R0,qg,p156,Rs.ev,qd, *])
def F160_1_B(a0:aJ)(a1:aJ)(bX:Int)(s:Unit):Option ((Unit)⊕((Unit)⊕Bool)):=
 (getI a0 bX).bind fun x5=>
(getI a1 bX).bind fun x7=>
(F156 x5 x7).bind fun x9=>
if x9=true then
 some (.inl ())
else
 some (.inr (.inr false))
def F160_1_D(a0:aJ)(a1:aJ)(bX:Int)(s:Unit):Option ((Unit)⊕Bool):=
 some (.inl ())
def F160(a0:aJ)(a1:aJ):Option Bool:=
 if(a0.length:Int)=(a1.length:Int)then
  (forR 0 (a0.length:Int) (F160_1_B a0 a1) (F160_1_D a0 a1) ()).bind fun rM=> match rM with
   | .inl _=>
    some true
   | .inr uN=> some uN
 else
  some false
def I160_1(a0:aJ)(a1:aJ)(bX:Int)(s:Unit)(e:Env)(h:Heap):Prop:=
 ∃k3:Nat,h=⟨[],k3⟩∧e.length=27∧e.at 0=iL a0∧e.at 1=iL a1∧e.at 5=iI bX
def P160_1(a0:aJ)(a1:aJ)(t:(Unit)⊕Bool)(x:Ex)(e:Env)(h:Heap):Prop:=
 match t with
 | .inl _=> x= .normal∧∃k3:Nat,h=⟨[],k3⟩∧e.length=27
 | .inr r=> x= .ret∧Fin p160 (enc r) .ret e h
theorem l160_1(a0:aJ)(a1:aJ){lo:Int}{s:Unit}{t:(Unit)⊕Bool}(hF:forR lo (a0.length:Int) (F160_1_B a0 a1) (F160_1_D a0 a1) s=some t){e:Env}{h:Heap}(hI:I160_1 a0 a1 lo s e h):W A c160_1 e h (P160_1 a0 a1 t):=by
 show W A (.block 0 (.loop false b160_1)) e h _;rw[qp];refine qF hF 0 (by obtain⟨_,rfl,_⟩:=hI; rfl) (I160_1 a0 a1) hI ?_ ?_
 ·rintro bX _ e h ⟨k3,rfl,h_2⟩ hlt hw o ho
  unfold F160_1_B at ho;obtain⟨x5,dB,ho⟩:=bS ho;obtain⟨lH,lG⟩:=qm dB;obtain⟨x7,dQ,ho⟩:=bS ho;obtain⟨nV,mZ⟩:=qm dQ;obtain⟨x9,fR,ho⟩:=bS ho;have rL:=s156 x5 x7 fR;cases x9 with
  |true=>
   rw[if_pos rfl]at ho;cases ho;simp only[simprocAttr,R0,b160_1, *];refine ai rfl (ei _ (ai rfl ?_));simp only[simprocAttr,R0, *]
  |false=>
   rw[if_neg wD]at ho;cases ho;simp only[simprocAttr,R0,b160_1, *];intro ht; subst ht;simp only[simprocAttr,RR,RB];exact ai rfl (qh (by simp only[simprocAttr,R0,qg,p160,Rs.ev,qd, *]))
 ·rintro bX _ e h ⟨k3,rfl,h_2⟩ hge t1 ho
  unfold F160_1_D at ho;cases ho;simp only[simprocAttr,R0,b160_1, *];intro ht; subst ht;refine ai rfl (ei _ (ai rfl ?_));simp only[simprocAttr,R0, *]
theorem s160(a0:aJ)(a1:aJ){r:Bool}(hF:F160 a0 a1=some r):ans A 160 [iL a0,iL a1]=some (enc r):=by
 refine qB (f:=p160) rfl rfl rfl fun e hl he=>?_;have aA:=he 0 _ rfl;have aB:=he 1 _ rfl;have hl_0:e.length=27:=hl;clear he hl;have h_0:=ai hl_0 (ai aA aB);show W A b160 e ⟨[],0⟩ _;unfold F160 at hF;by_cases c1:(a0.length:Int)=(a1.length:Int)
 ·rw[if_pos c1]at hF
  obtain⟨rM,lT,hF⟩:=bS hF;rcases rM with _|uN
  ·dsimp only at hF
   simp only[simprocAttr,R0,b160, *];refine W.mono (l160_1 a0 a1 lT (ei _ (ai rfl ?_))) ?_
   ·simp only[simprocAttr,R0, *]
   rintro _ e _ ⟨rfl,k3,rfl,hl_4⟩;cases hF;simp only[simprocAttr,R0, *];exact qh (by simp only[simprocAttr,R0,qg,p160,Rs.ev,qd, *])
  ·dsimp only at hF
   cases hF;simp only[simprocAttr,R0,b160, *];refine W.mono (l160_1 a0 a1 lT (ei _ (ai rfl ?_))) ?_
   ·simp only[simprocAttr,R0, *]
   rintro _ e h ⟨rfl,hq⟩;simp only[simprocAttr,RR,RB];exact hq
 ·rw[if_neg c1]at hF
  cases hF;simp only[simprocAttr,R0,b160, *];exact qh (by simp only[simprocAttr,R0,qg,p160,Rs.ev,qd, *])
def F182_1_B(a0:L3)(a1:L3)(bX:Int)(s:Unit):Option ((Unit)⊕((Unit)⊕Bool)):=
 (getI a0 bX).bind fun x5=>
(getI a1 bX).bind fun x7=>
(F160 x5 x7).bind fun x9=>
if x9=true then
 some (.inl ())
else
 some (.inr (.inr false))
def F182_1_D(a0:L3)(a1:L3)(bX:Int)(s:Unit):Option ((Unit)⊕Bool):=
 some (.inl ())
def F182(a0:L3)(a1:L3):Option Bool:=
 if(a0.length:Int)=(a1.length:Int)then
  (forR 0 (a0.length:Int) (F182_1_B a0 a1) (F182_1_D a0 a1) ()).bind fun rM=> match rM with
   | .inl _=>
    some true
   | .inr uN=> some uN
 else
  some false
def I182_1(a0:L3)(a1:L3)(bX:Int)(s:Unit)(e:Env)(h:Heap):Prop:=
 ∃k3:Nat,h=⟨[],k3⟩∧e.length=27∧e.at 0=iL a0∧e.at 1=iL a1∧e.at 5=iI bX
def P182_1(a0:L3)(a1:L3)(t:(Unit)⊕Bool)(x:Ex)(e:Env)(h:Heap):Prop:=
 match t with
 | .inl _=> x= .normal∧∃k3:Nat,h=⟨[],k3⟩∧e.length=27
 | .inr r=> x= .ret∧Fin p182 (enc r) .ret e h
theorem l182_1(a0:L3)(a1:L3){lo:Int}{s:Unit}{t:(Unit)⊕Bool}(hF:forR lo (a0.length:Int) (F182_1_B a0 a1) (F182_1_D a0 a1) s=some t){e:Env}{h:Heap}(hI:I182_1 a0 a1 lo s e h):W A c182_1 e h (P182_1 a0 a1 t):=by
 show W A (.block 0 (.loop false b182_1)) e h _;rw[qp];refine qF hF 0 (by obtain⟨_,rfl,_⟩:=hI; rfl) (I182_1 a0 a1) hI ?_ ?_
 ·rintro bX _ e h ⟨k3,rfl,h_2⟩ hlt hw o ho
  unfold F182_1_B at ho;obtain⟨x5,dB,ho⟩:=bS ho;obtain⟨lH,lG⟩:=qm dB;obtain⟨x7,dQ,ho⟩:=bS ho;obtain⟨nV,mZ⟩:=qm dQ;obtain⟨x9,fR,ho⟩:=bS ho;have rL:=s160 x5 x7 fR;cases x9 with
  |true=>
   rw[if_pos rfl]at ho;cases ho;simp only[simprocAttr,R0,b182_1, *];refine ai rfl (ei _ (ai rfl ?_));simp only[simprocAttr,R0, *]
  |false=>
   rw[if_neg wD]at ho;cases ho;simp only[simprocAttr,R0,b182_1, *];intro ht; subst ht;simp only[simprocAttr,RR,RB];exact ai rfl (qh (by simp only[simprocAttr,R0,qg,p182,Rs.ev,qd, *]))
 ·rintro bX _ e h ⟨k3,rfl,h_2⟩ hge t1 ho
  unfold F182_1_D at ho;cases ho;simp only[simprocAttr,R0,b182_1, *];intro ht; subst ht;refine ai rfl (ei _ (ai rfl ?_));simp only[simprocAttr,R0, *]
theorem s182(a0:L3)(a1:L3){r:Bool}(hF:F182 a0 a1=some r):ans A 182 [iL a0,iL a1]=some (enc r):=by
 refine qB (f:=p182) rfl rfl rfl fun e hl he=>?_;have aA:=he 0 _ rfl;have aB:=he 1 _ rfl;have hl_0:e.length=27:=hl;clear he hl;have h_0:=ai hl_0 (ai aA aB);show W A b182 e ⟨[],0⟩ _;unfold F182 at hF;by_cases c1:(a0.length:Int)=(a1.length:Int)
 ·rw[if_pos c1]at hF
  obtain⟨rM,lT,hF⟩:=bS hF;rcases rM with _|uN
  ·dsimp only at hF
   simp only[simprocAttr,R0,b182, *];refine W.mono (l182_1 a0 a1 lT (ei _ (ai rfl ?_))) ?_
   ·simp only[simprocAttr,R0, *]
   rintro _ e _ ⟨rfl,k3,rfl,hl_4⟩;cases hF;simp only[simprocAttr,R0, *];exact qh (by simp only[simprocAttr,R0,qg,p182,Rs.ev,qd, *])
  ·dsimp only at hF
   cases hF;simp only[simprocAttr,R0,b182, *];refine W.mono (l182_1 a0 a1 lT (ei _ (ai rfl ?_))) ?_
   ·simp only[simprocAttr,R0, *]
   rintro _ e h ⟨rfl,hq⟩;simp only[simprocAttr,RR,RB];exact hq
 ·rw[if_neg c1]at hF
  cases hF;simp only[simprocAttr,R0,b182, *];exact qh (by simp only[simprocAttr,R0,qg,p182,Rs.ev,qd, *])
def F159(a0:qe)(a1:qe):Option Bool:=
 if a0.P=a1.P then
  (F156 a0.D a1.D).bind fun x2=>
  if x2=true then
   (F182 a0.M a1.M).bind fun x4=>
   some x4
  else
   some false
 else
  some false
theorem s159(a0:qe)(a1:qe){r:Bool}(hF:F159 a0 a1=some r):ans A 159 [(eC a0),(eC a1)]=some (enc r):=by
 refine qB (f:=p159) rfl rfl rfl fun e hl he=>?_;have aA:=he 0 _ rfl;have aB:=he 1 _ rfl;have hl_0:e.length=24:=hl;clear he hl;have h_0:=ai hl_0 (ai aA aB);show W A b159 e ⟨[],0⟩ _;unfold F159 at hF;by_cases c1:a0.P=a1.P
 ·rw[if_pos c1]at hF
  obtain⟨x2,iS,hF⟩:=bS hF;have w3:=s156 a0.D a1.D iS;cases x2 with
  |true=>
   rw[if_pos rfl]at hF;obtain⟨x4,fM,hF⟩:=bS hF;have w5:=s182 a0.M a1.M fM;cases hF;simp only[simprocAttr,R0,b159, *];exact qh (by simp only[simprocAttr,R0,qg,p159,Rs.ev,qd, *])
  |false=>
   rw[if_neg wD]at hF;cases hF;simp only[simprocAttr,R0,b159, *];exact qh (by simp only[simprocAttr,R0,qg,p159,Rs.ev,qd, *])
 ·rw[if_neg c1]at hF
  cases hF;simp only[simprocAttr,R0,b159, *];exact qh (by simp only[simprocAttr,R0,qg,p159,Rs.ev,qd, *])
def F146(a0:qc)(a1:qc):Option Bool:=
 (F159 a0.C a1.C).bind fun x1=>
 if x1=true then
  (F160 a0.L a1.L).bind fun x3=>
  some x3
 else
  some false
theorem s146(a0:qc)(a1:qc){r:Bool}(hF:F146 a0 a1=some r):ans A 146 [(eF a0),(eF a1)]=some (enc r):=by
 refine qB (f:=p146) rfl rfl rfl fun e hl he=>?_;have aA:=he 0 _ rfl;have aB:=he 1 _ rfl;have hl_0:e.length=17:=hl;clear he hl;have h_0:=ai hl_0 (ai aA aB);show W A b146 e ⟨[],0⟩ _;unfold F146 at hF;obtain⟨x1,bD,hF⟩:=bS hF;have w2:=s159 a0.C a1.C bD;cases x1 with
 |true=>
  rw[if_pos rfl]at hF;obtain⟨x3,dN,hF⟩:=bS hF;have w4:=s160 a0.L a1.L dN;cases hF;simp only[simprocAttr,R0,b146, *];exact qh (by simp only[simprocAttr,R0,qg,p146,Rs.ev,qd, *])
 |false=>
  rw[if_neg wD]at hF;cases hF;simp only[simprocAttr,R0,b146, *];exact qh (by simp only[simprocAttr,R0,qg,p146,Rs.ev,qd, *])
def F137(a0:L1)(d0:Int):Option Bool:=
 (getI a0 d0).bind fun x1=>
 some (!(decide (x1=0)))
theorem s137(a0:L1)(d0:Int){r:Bool}(hF:F137 a0 d0=some r):ans A 137 [iL a0,V.iptr [iI d0]]=some (enc r):=by
 refine qB (f:=p137) rfl rfl rfl fun e hl he=>?_;have aA:=he 0 _ rfl;have aB:=he 1 _ rfl;have hl_0:e.length=9:=hl;clear he hl;show W A b137 e ⟨[],0⟩ _;unfold F137 at hF;obtain⟨x1,bD,hF⟩:=bS hF;obtain⟨tR,tQ⟩:=qm bD;cases hF;simp only[simprocAttr,R0,b137, *];exact qh (by simp only[simprocAttr,R0,qg,p137,Rs.ev,qd, *])
def F138_1_S(a0:Int)(a1:Int)(bX:Int):Option ((Int)⊕(Int)):=
 (chk (bX*a1)).bind fun x4=>
(remI x4 a0).bind fun x5=>
if x5=1 then
 some (.inr bX)
else
 (chk (bX+1)).bind fun x8=>
 some (.inl x8)
def F138(a0:Int)(a1:Int):Option Int:=
 (qY (F138_1_S a0 a1) 1).bind fun pC=>
 some pC
def I138_1(a0:Int)(a1:Int)(bX:Int)(e:Env)(h:Heap):Prop:=
 ∃k2:Nat,h=⟨[],k2⟩∧e.length=15∧e.at 0=iI a0∧e.at 1=iI a1∧e.at 5=iI bX
def P138_1(a0:Int)(a1:Int)(pC:Int)(x:Ex)(e:Env)(h:Heap):Prop:=
 x= .normal∧∃k2:Nat,h=⟨[],k2⟩∧e.length=15∧e.at 5=iI pC
theorem l138_1(a0:Int)(a1:Int){s:Int}{t:Int}(hF:qY (F138_1_S a0 a1) s=some t){e:Env}{h:Heap}(hI:I138_1 a0 a1 s e h):W A c138_1 e h (P138_1 a0 a1 t):=by
 show W A (.block 0 (.loop false b138_1)) e h _;rw[qp];refine zW hF 0 (by obtain⟨_,rfl,_⟩:=hI; rfl) (I138_1 a0 a1) hI ?_
 ·rintro bX e h ⟨k2,rfl,h_1⟩ o ho
  unfold F138_1_S at ho;obtain⟨x4,fM,ho⟩:=bS ho;have wx4:=qD fM;obtain⟨x5,dB,ho⟩:=bS ho;obtain⟨lH,lG⟩:=rem_w dB;by_cases c7:x5=1
  ·rw[if_pos c7]at ho
   cases ho;simp only[simprocAttr,R0,b138_1, *];intro ht; subst ht;simp only[simprocAttr,RR,RB];refine ai rfl (ei _ (ai rfl ?_));simp only[simprocAttr,R0, *]
  ·rw[if_neg c7]at ho
   obtain⟨x8,oJ,ho⟩:=bS ho;have wx8:=qD oJ;cases ho;simp only[simprocAttr,R0,b138_1, *];refine ai rfl (ei _ (ai rfl ?_));simp only[simprocAttr,R0, *]
theorem s138(a0:Int)(a1:Int){r:Int}(hF:F138 a0 a1=some r):ans A 138 [iI a0,iI a1]=some (enc r):=by
 refine qB (f:=p138) rfl rfl rfl fun e hl he=>?_;have aA:=he 0 _ rfl;have aB:=he 1 _ rfl;have hl_0:e.length=15:=hl;clear he hl;show W A b138 e ⟨[],0⟩ _;unfold F138 at hF;obtain⟨pC,uc,hF⟩:=bS hF;simp only[simprocAttr,R0,b138, *];refine W.mono (l138_1 a0 a1 uc (ei _ (ai rfl ?_))) ?_
 ·simp only[simprocAttr,R0, *]
 rintro _ e _ ⟨rfl,k2,rfl,h_3⟩;cases hF;simp only[simprocAttr,R0, *];exact qh (by simp only[simprocAttr,R0,qg,p138,Rs.ev,qd, *])
def F139_1_B(other:L1)(p by_:Int)(i:Int)(row:L1):Option (L1⊕L1):=
 (getI other i).bind fun y=>(getI row i).bind fun r=>(chk (p - by_)).bind fun q=>(chk (q*y)).bind fun m=>(chk (r+m)).bind fun s=>(remI s p).bind fun z=>(setI row i z).bind fun row'=> some (.inl row')
def F139_1_D(i:Int)(row:L1):Option L1:=some row
def F139(row other:L1)(p by_:Int):Option L1:=forR 0 (other.length:Int) (F139_1_B other p by_) F139_1_D row
theorem d139{row other row':L1}{p by_:Int}(hF:F139 row other p by_=some row')(E:List (nO))(c:Nat){key uid key2 uid2:Nat}(g1:E[key]? =some (uid,some (row.map enc)))(g2:E[key2]? =some (uid2,some (other.map enc)))(hne:key2≠key):
  res A 139 [V.sl key uid 0 row.length 1,V.sl key2 uid2 0 other.length 1,iI p,iI by_] ⟨E,c⟩=some (V.undef,⟨E.set key (uid,some (List.map enc row')),c⟩)∧row'.length=row.length:=by
 have hk:key < E.length:=gA g1
 suffices∃h',res A 139 [V.sl key uid 0 row.length 1,V.sl key2 uid2 0 other.length 1,iI p,iI by_] ⟨E,c⟩=some (V.undef,h')∧h'=⟨E.set key (uid,some (List.map enc row')),c⟩∧row'.length=row.length by
  obtain⟨h',q1,rfl,q2⟩:=this;exact⟨q1,q2⟩
 refine res_ex (f:=p139) rfl rfl rfl fun e hl he=>?_;have aA:=he 0 _ rfl;have aB:=he 1 _ rfl;have aU:=he 2 _ rfl;have cX:=he 3 _ rfl;have hl_0:e.length=33:=hl;clear he hl;show W A b139 e ⟨E,c⟩ _;unfold F139 at hF;simp only[simprocAttr,R1,b139,hl_0,aA,aB,aU,cX];show W A (.block 0 (.loop true b139_1)) _ _ _;rw[qp];refine qF hF _ rfl (fun i s e h=> s.length=row.length∧h=⟨E.set key (uid,some (s.map enc)),c⟩∧e.length=33∧e.at 0=V.sl key uid 0 row.length 1∧e.at 2=iI p∧e.at 3=iI by_∧e.at 10=V.sl key2 uid2 0 other.length 1∧e.at 11=iI (other.length:Int)∧e.at 12=iI i) ?_ ?_ ?_
 ·refine⟨rfl,?_,?_⟩
  ·rw[set_self g1]
  ·simp only[simprocAttr,R1,hl_0,aA,aB,aU,cX]
 ·clear hl_0 aA aB aU cX
  rintro i s e h ⟨hs,rfl,h_1⟩ hlt hw s' ho;unfold F139_1_B at ho;obtain⟨y,gy,ho⟩:=bS ho;obtain⟨ya,yb⟩:=qm gy;have yc:=zi gy;obtain⟨r,gr,ho⟩:=bS ho;obtain⟨ra,rb⟩:=qm gr;have rc:=zi gr;obtain⟨q,gq,ho⟩:=bS ho;have wq:=qD gq;obtain⟨m,gm,ho⟩:=bS ho;have wm:=qD gm;obtain⟨t,gt,ho⟩:=bS ho;have wt:=qD gt;obtain⟨z,gz,ho⟩:=bS ho;obtain⟨wz0,wz⟩:=rem_w gz;obtain⟨py,gs,ho⟩:=bS ho;obtain⟨s1,s2,s3,s4,s5⟩:=xB gs;cases ho;have oy:zk none (List.drop (Int.toNat i) (other.map enc))=some (iI y):=qC (by rw[gF,yb]; rfl);have orr:zk none (List.drop (Int.toNat i) (s.map enc))=some (iI r):=qC (by rw[gF,rb]; rfl);have n1:∀x,(E.set key x)[key]? =some x:=fun x=> ql hk;have n2:∀x,(E.set key x)[key2]? =some (uid2,some (other.map enc)):=fun x=>(qi hne).trans g2;have sY:List.take (Int.toNat i) (s.map enc)++[iI z]++List.drop (Int.toNat i+1) (s.map enc)=List.map enc py:=s5;have rc':i < (row.length:Int):=by omega
  simp only[simprocAttr,R1,b139_1,h_1,eq_true hlt,hw,ya,eq_true yc,oy,ra,eq_true rc',orr,n1,n2,wq,wm,wt,wz0,wz,s3,sY,List.set_set];refine ai rfl ⟨by omega,rfl,?_⟩;simp only[simprocAttr,R1,h_1,hw]
 ·clear hl_0 aA aB aU cX
  rintro i s e h ⟨hs,rfl,h_1⟩ hge t1 ho;unfold F139_1_D at ho;cases ho;simp only[simprocAttr,R1,b139_1,h_1,eq_false hge];intro ht; subst ht;refine ai (fun _=> trivial) ⟨?_,rfl,hs⟩;simp only[simprocAttr,R1,qg,p139,mapO];rfl
def F133_1_B(rows:aJ)(i:Int)(s:aJ):Option (aJ⊕aJ):=(getI rows i).bind fun r=>(F96 r).bind fun d=>(app 24 s [d]).bind fun l=> some (.inl l)
def F133_1_D(i:Int)(s:aJ):Option aJ:=some s
def F133_3_B(p b:Int)(k:Int)(row:L1):Option (L1⊕L1):=(getI row k).bind fun x=>(chk (x*b)).bind fun m=>(remI m p).bind fun z=>(setI row k z).bind fun r=> some (.inl r)
def F133_3_D(k:Int)(row:L1):Option L1:=some row
def F133_4_B(p c done:Int)(i:Int)(l:aJ):Option (aJ⊕aJ):=
 if i=done then some (.inl l)else(getI l i).bind fun r=>(getI l done).bind fun o=>(getI r c).bind fun x=>(F139 r o p x).bind fun r'=>(setI l i r').bind fun l'=> some (.inl l')
def F133_4_D(i:Int)(l:aJ):Option aJ:=some l
def F133_2_B(p:Int)(c:Int)(s:aJ×Int):Option ((aJ×Int)⊕(aJ×Int)):=
 if 0≤s.2∧s.2≤s.1.length then
  (F128 (s.1.drop s.2.toNat) (fun r=> F137 r c)).bind fun at_=>
  if at_ < 0 then some (.inl s)else
  (chk (s.2+at_)).bind fun j=>(getI s.1 j).bind fun a=>(getI s.1 s.2).bind fun b=>(setI s.1 s.2 a).bind fun l1=>(setI l1 j b).bind fun l2=>
  (getI l2 s.2).bind fun row=>(getI row c).bind fun x=>(F138 p x).bind fun by_=>
  (forR 0 (row.length:Int) (F133_3_B p by_) F133_3_D row).bind fun row'=>(setI l2 s.2 row').bind fun l3=>
  (forR 0 (l3.length:Int) (F133_4_B p c s.2) F133_4_D l3).bind fun l4=>(chk (s.2+1)).bind fun d=> if d=(l4.length:Int)then some (.inr (l4,d))else some (.inl (l4,d))
 else none
def F133_2_D(c:Int)(s:aJ×Int):Option (aJ×Int):=some s
def F133(p:Int)(rows:aJ):Option aJ:=
 (forR 0 (rows.length:Int) (F133_1_B rows) F133_1_D []).bind fun l=> if(l.length:Int)=0 then some l else(getI l 0).bind fun r0=>
 (forR 0 (r0.length:Int) (F133_2_B p) F133_2_D (l,0)).bind fun t=> if 0≤t.2∧t.2≤t.1.length then some (t.1.take t.2.toNat)else none
set_option maxHeartbeats 8000000 in
theorem d133(p:Int)(rows:aJ){r:aJ}(hF:F133 p rows=some r):∃v h',res A 133 [iI p,iL rows] Heap.empty=some (v,h')∧
  ∃u vs l,v=V.sl 0 u 0 r.length 1∧h'.ents[0]? =some (u,some vs)∧jk h'.ents vs l (fun k=> 1≤k)∧r=l.take r.length:=by
 refine xp (f:=p133) rfl rfl rfl fun e hl he=>?_;have aA:=he 0 _ rfl;have aB:=he 1 _ rfl;have hl_0:e.length=134:=hl;clear he hl;show W A b133 e ⟨[],0⟩ _;unfold F133 at hF;obtain⟨l0,gl0,hF⟩:=bS hF;simp only[simprocAttr, -Int.reduceNatCast',R1,b133,hl_0,aA,aB];show W A (.block 0 (.loop true b133_1)) _ _ _;rw[qp];refine qF gl0 _ rfl (fun i s e h=>∃u vs,h.ents[0]? =some (u,some vs)∧jk h.ents vs s (fun k=> 1≤k)∧e.length=134∧e.at 0=iI p∧e.at 5=V.sl 0 u 0 s.length 1∧e.at 15=iL rows∧e.at 16=iI (rows.length:Int)∧e.at 17=iI i) ?_ ?_ ?_
 ·refine⟨0,[],rfl,.nil,?_⟩
  simp only[simprocAttr, -Int.reduceNatCast',R1,hl_0,aA,aB]
 ·clear hl_0 aA aB
  rintro i s e ⟨E,c⟩ ⟨u,vs,g1,g2,hl_1,aG,aL,kR,kQ,iB⟩ hlt hw s' ho;unfold F133_1_B at ho;simp only at g1 g2;obtain⟨x,gx,ho⟩:=bS ho;obtain⟨xa,xb⟩:=qm gx;obtain⟨d,gd,ho⟩:=bS ho;have wd:=t96 x gd;obtain⟨l,gl,ho⟩:=bS ho;obtain⟨q1,q2,rfl⟩:=app_w gl;have hE:=wA ho; subst hE;have hE0:0 < E.length:=gA g1;have w9:∀x y c',qS 1 24 (.sl 0 u 0 s.length 1) 1 [V.sl E.length c 0 d.length 1] ⟨E++[x]++[y],c'⟩=_:=fun x y c'=> zj (E:=E++[x]++[y]) (vs:=vs) (by rw[wO,gB hE0]; exact g1) g2.len (by simpa using q1) (by simpa using q2);simp only[simprocAttr, -Int.reduceNatCast',R1,b133_1,hl_1,aG,aL,kR,kQ,iB,eq_true hlt,hw,xa,xb,wd,qK,zm,le1,qw,ge2a,ge2b,w9];refine ai rfl ⟨_,_,ql (by simp),?_,?_⟩
  ·refine(jk.snoc (k:=E.length) (u:=c) (r:=d) (E:=((E++[(c,some (d.map enc))]++[(c+1,some [V.sl E.length c 0 d.length 1])]).set 0 (c+1+1,some (vs++[V.sl E.length c 0 d.length 1])))) (g2.frame fun k hk hb=>?_) ?_ (by omega) fun i k' u' n hv e=>?_)
   ·rw[qi (by omega),wO,gB hk]
   ·rw[qi (by omega)]; exact ge2a ..
   ·subst e
    obtain⟨r,hr⟩:∃r,s[i]? =some r:=⟨s[i]'(by have:=gA hv; have:=g2.len; omega),by simp⟩;obtain⟨k2,u2,e2,g,_⟩:=g2.row i _ r hv hr;cases e2;have:=gA g;omega
  ·simp only[simprocAttr, -Int.reduceNatCast',R1,hl_1,aG,aL,kR,kQ,iB,hw,wM]
 ·clear hl_0 aA aB
  rintro i s e ⟨E,c⟩ ⟨u,vs,g1,g2,hl_1,aG,aL,kR,kQ,iB⟩ hge t1 ho;unfold F133_1_D at ho;have hE:=wA ho; subst hE;simp only at g1 g2;simp only[simprocAttr, -Int.reduceNatCast',R1,b133_1,hl_1,aG,aL,kR,kQ,iB,eq_false hge];intro ht; subst ht;by_cases hz:(s.length:Int)=0
  ·rw[if_pos hz]at hF ⊢
   have hE:=wA hF; subst hE;refine ai (fun _=> trivial) ⟨_,?_,u,vs,s,rfl,g1,g2,by rw[vH]⟩;simp only[simprocAttr, -Int.reduceNatCast',R1,qg,p133,Rs.ev,hl_1,aL]
  ·rw[if_neg hz]at hF ⊢
   obtain⟨r0,tE,hF⟩:=bS hF;obtain⟨ra,rb⟩:=qm tE;have rc:=zi tE;obtain⟨t,gt,hF⟩:=bS hF;obtain⟨k0,u0,v1,v2,v3⟩:=g2.get rb;have o1:=qC v1;simp only[Int.toNat_zero,vO]at o1;simp only[simprocAttr, -Int.reduceNatCast',R1,hl_1,aG,aL,kR,kQ,iB,eq_true rc,g1,o1,Int.toNat_zero,vV];show W A (.block 2 (.loop true b133_2)) _ _ _;rw[qp];refine qF gt _ rfl (fun i s e h=>∃u vs,h.ents[0]? =some (u,some vs)∧jk h.ents vs s.1 (fun k=> 1≤k)∧e.length=134∧e.at 0=iI p∧e.at 5=V.sl 0 u 0 s.1.length 1∧e.at 8=iI s.2∧e.at 34=iI (r0.length:Int)∧e.at 35=iI i) ?_ ?_ ?_
   ·refine⟨u,vs,g1,g2,?_⟩
    simp only[simprocAttr, -Int.reduceNatCast',R1,hl_1,aG,aL,kR,kQ,iB]
   ·clear hl_1 aG aL kR kQ iB g1 g2 k0 u0 v1 v2 v3 o1
    rintro cc ⟨l,done⟩ e ⟨E,c⟩ ⟨u,vs,g1,g2,hl_1,aG,aL,aP,cH,bV⟩ hlt hw s' ho;unfold F133_2_B at ho;simp only at g1 g2 aL aP ho;have hE0:0 < E.length:=gA g1;split at ho
    case isFalse=> cases ho
    rename_i hdn;obtain⟨rQ,pQ⟩:=hdn;have hdn:done.toNat≤l.length:=by omega
    obtain⟨at_,gat,ho⟩:=bS ho;have wat:ans A 128 [V.isl (List.map enc (l.drop done.toNat)),V.fn 137 [] [V.iptr [iI cc]]]=some (iI at_):=s128 (l.drop done.toNat) (fun r=> F137 r cc)
     (Clo1.of (by intro h f; simp only[RZ,mapO]) (by intro h f; simp only[RZ,mapO]) (by intro f; simp only[RZ,RB]) (by intro f; simp only[RZ,RB]) (fun x _ hr=> s137 x cc hr)) gat
    have pL:∀x,(E++[x])[0]? =some (u,some vs):=fun x=>(gB hE0).trans g1;have tN:∀x,jk (E++[x]) vs l (fun k=> 1≤k∧k < E.length):=fun x=>(g2.mono (fun k hk h=> ai h hk)).frame fun k hk _=> gB hk;have wfz:∀x c,frz ⟨E++[x],c⟩ 16 (V.sl 0 u done.toNat (l.length - done.toNat) 1)=some (V.isl (List.map enc (l.drop done.toNat))):=fun x c=> by
     have:=(tN x).fz c (pL x) (off:=done.toNat) (n:=l.length - done.toNat) (by omega)
     rwa[wR (by simp)]at this
    have wsl:=slice_lo (key:=0) (uid:=u) (n:=l.length) rQ (by omega);by_cases hat:at_ < 0
    ·rw[if_pos hat]at ho
     have hE:=wA ho; subst hE;simp only[simprocAttr, -Int.reduceNatCast',R1,b133_2,hl_1,aG,aL,aP,cH,bV,eq_true hlt,hw,vL,yZ,wsl,wfz,wat,qw,jJ,eq_true hat];refine ai rfl ⟨u,vs,pL _,(tN _).mono fun k _ h=> h.1,?_⟩;simp only[simprocAttr, -Int.reduceNatCast',R1,hl_1,aG,aL,aP,cH,bV,hw]
    ·rw[if_neg hat]at ho
     obtain⟨j,gj,ho⟩:=bS ho;have wj:=qD gj;obtain⟨a,ga,ho⟩:=bS ho;obtain⟨aa,ab⟩:=qm ga;have ac:=zi ga;obtain⟨b,gb,ho⟩:=bS ho;obtain⟨ba,bb⟩:=qm gb;have bc:=zi gb;obtain⟨l1,tM,ho⟩:=bS ho;have e1:=xL tM;obtain⟨l2,tJ,ho⟩:=bS ho;have e2:=xL tJ;subst e1; subst e2;obtain⟨row,grow,ho⟩:=bS ho;obtain⟨rowa,rowb⟩:=qm grow;obtain⟨x,gx,ho⟩:=bS ho;obtain⟨xa,xb⟩:=qm gx;have xc:=zi gx;obtain⟨by_,gby,ho⟩:=bS ho;have wby:ans A 138 [iI p,iI x]=some (iI by_):=s138 p x gby;obtain⟨row',gr',ho⟩:=bS ho;obtain⟨l3,gl3,ho⟩:=bS ho;have e3:=xL gl3;subst e3;obtain⟨l4,gg,ho⟩:=bS ho;obtain⟨d1,ig,ho⟩:=bS ho;have wd1:=qD ig;obtain⟨ka,ua,va1,va2,va3⟩:=(tN (c,some [iI cc])).get ab;obtain⟨kb,ub,vb1,vb2,vb3⟩:=(tN (c,some [iI cc])).get bb;have hml:=g2.len;have hsw:=(tN (c,some [iI cc])).swap vb1 va1 bb ab;generalize rj:(vs.set done.toNat (V.sl ka ua 0 a.length 1)).set j.toNat (V.sl kb ub 0 b.length 1)=nB at hsw;have hl2:((l.set done.toNat a).set j.toNat b).length=l.length:=by simp
     generalize hll2:(l.set done.toNat a).set j.toNat b=l2 at*;have oa:=qC va1;have ob:=qC vb1;have td1:List.take done.toNat vs++[V.sl ka ua 0 a.length 1]++List.drop (done.toNat+1) vs=vs.set done.toNat (V.sl ka ua 0 a.length 1):=tsd (by omega);have td2:List.take j.toNat (vs.set done.toNat (V.sl ka ua 0 a.length 1))++[V.sl kb ub 0 b.length 1]++List.drop (j.toNat+1) (vs.set done.toNat (V.sl ka ua 0 a.length 1))=nB:=(tsd (by simp; omega)).trans rj;have rt:done.toNat+1≤vs.length:=by omega
     have rq:j.toNat+1≤vs.length:=by omega
     have n1:∀y z,((E++[y]).set 0 z)[0]? =some z:=fun y z=> ql (by simp);have n2:∀y z,((E++[y]).set 0 z)[E.length]? =some y:=fun y z=>(qi (by omega)).trans (qw _ _);have dt:∀z,jk ((E++[(c,some [iI cc])]).set 0 z) nB l2 (fun k=> 1≤k∧k < E.length):=fun z=> hsw.frame fun k hk h=> qi (by omega);obtain⟨kr,ur,vr1,vr2,vr3⟩:=(dt (u,some nB)).get rowb;have orr:=qC vr1;have ox:zk none (List.drop cc.toNat (row.map enc))=some (iI x):=qC (by rw[gF,xb]; rfl);have hvl:nB.length=l.length:=by rw[hsw.len,hl2]
     simp only[simprocAttr, -Int.reduceNatCast',R1,b133_2,hl_1,aG,aL,aP,cH,bV,eq_true hlt,hw,vL,yZ,wsl,wfz,wat,qw,jJ,eq_false hat,wj,aa,eq_true ac,ba,eq_true bc,pL,oa,ob,yD,eq_true rt,eq_true rq,td1,td2,List.set_set,n1,n2,orr,xa,eq_true xc,vr2,ox,wby];have hd1v:d1=done+1:=by
      unfold chk at ig; split at ig
      ·cases ig; rfl
      ·cases ig
     have kr0:1≤kr:=vr3.1;have krE:kr < E.length:=vr3.2;have m0:∀z,(((E++[(c,some [iI cc])]).set 0 (u,some nB)).set kr z)[0]? =some (u,some nB):=fun z=>(qi (by omega)).trans (n1 _ _);have mk:∀z,(((E++[(c,some [iI cc])]).set 0 (u,some nB)).set kr z)[kr]? =some z:=fun z=> ql (by simp; omega);have mN:∀z,(((E++[(c,some [iI cc])]).set 0 (u,some nB)).set kr z)[E.length]? =some (c,some [iI cc]):=fun z=>(qi (by omega)).trans (n2 _ _);have hdl:done < (l.length:Int):=by omega
     show W A (.block 4 (.loop true b133_3)) _ _ _;rw[qp];refine qF gr' _ rfl (fun k s e h=> s.length=row.length∧h=⟨((E++[(c,some [iI cc])]).set 0 (u,some nB)).set kr (ur,some (s.map enc)),c+1⟩∧e.length=134∧e.at 0=iI p∧e.at 5=V.sl 0 u 0 l.length 1∧e.at 8=iI done∧e.at 9=V.ptr E.length c 0∧e.at 11=iI by_∧e.at 34=iI (r0.length:Int)∧e.at 35=iI cc∧e.at 76=iI (row.length:Int)∧e.at 77=iI k) ?_ ?_ ?_
     ·refine⟨rfl,by rw[set_self vr2],?_⟩
      simp only[simprocAttr, -Int.reduceNatCast',R1,hl_1,aG,aL,aP,cH,bV]
     ·clear hl_1 aG aL aP cH bV
      rintro k q e h ⟨hq,rfl,hl_1,aG,aL,aP,bZ,aT,cH,bV,lO,lN⟩ nF rO s3 iA;unfold F133_3_B at iA;obtain⟨x3,dN,iA⟩:=bS iA;obtain⟨ly,lx⟩:=qm dN;obtain⟨m3,ux,iA⟩:=bS iA;have mm:=qD ux;obtain⟨z3,td,iA⟩:=bS iA;obtain⟨d5,me⟩:=rem_w td;obtain⟨q2,q7,iA⟩:=bS iA;obtain⟨s31,s32,px,s34,pw⟩:=xB q7;have hE:=wA iA; subst hE;have o3:zk none (List.drop k.toNat (q.map enc))=some (iI x3):=qC (by rw[gF,lx]; rfl);have uT:k < (row.length:Int):=nF;have i5:List.take k.toNat (q.map enc)++[iI z3]++List.drop (k.toNat+1) (q.map enc)=List.map enc q2:=pw;simp only[simprocAttr, -Int.reduceNatCast',R1,b133_3,hl_1,aG,aL,aP,bZ,aT,cH,bV,lO,lN,rO,eq_true nF,rQ,eq_true hdl,m0,mk,orr,ly,o3,mm,d5,me,px,i5,List.set_set];refine ai rfl ⟨by omega,rfl,?_⟩;simp only[simprocAttr, -Int.reduceNatCast',R1,hl_1,aG,aL,aP,bZ,aT,cH,bV,lO,lN,rO]
     ·clear hl_1 aG aL aP cH bV
      rintro k q e h ⟨hq,rfl,hl_1,aG,aL,aP,bZ,aT,cH,bV,lO,lN⟩ rP t3 iA;unfold F133_3_D at iA;have hE:=wA iA; subst hE;simp only[simprocAttr, -Int.reduceNatCast',R1,b133_3,hl_1,aG,aL,aP,bZ,aT,cH,bV,lO,lN,eq_false rP];intro ht; subst ht;have hmw:=jk.write (dt (u,some nB)) rowb vr1 hq;have tA:((l2.set done.toNat q).length:Int)=(l.length:Int):=by rw[yD,hl2]
      rw[tA]at gg;show W A (.block 6 (.loop true b133_4)) _ _ _;rw[qp];refine qF gg _ rfl (fun i s e h=> s.length=l.length∧h.ents[0]? =some (u,some nB)∧jk h.ents nB s (fun k=> 1≤k∧k < E.length)∧h.ents[E.length]? =some (c,some [iI cc])∧e.length=134∧e.at 0=iI p∧e.at 5=V.sl 0 u 0 l.length 1∧e.at 8=iI done∧e.at 9=V.ptr E.length c 0∧e.at 34=iI (r0.length:Int)∧e.at 35=iI cc∧e.at 99=iI (l.length:Int)∧e.at 100=iI i) ?_ ?_ ?_
      ·refine⟨by omega,m0 _,hmw,mN _,?_⟩
       simp only[simprocAttr, -Int.reduceNatCast',R1,hl_1,aG,aL,aP,bZ,aT,cH,bV,lO,lN]
      ·clear hl_1 aG aL aP bZ aT cH bV lO lN
       rintro i q4 e ⟨E4,c4⟩ ⟨lj,f1,f2,f3,hl_1,aG,aL,aP,bZ,cH,bV,iM,fH⟩ j7 li s4 mY;unfold F133_4_B at mY;simp only at f1 f2 f3;by_cases hi:i=done
       ·rw[if_pos hi]at mY
        have hE:=wA mY; subst hE;simp only[simprocAttr, -Int.reduceNatCast',R1,b133_4,hl_1,aG,aL,aP,bZ,cH,bV,iM,fH,li,eq_true j7,eq_true hi];refine ai rfl ⟨lj,f1,f2,f3,?_⟩;simp only[simprocAttr, -Int.reduceNatCast',R1,hl_1,aG,aL,aP,bZ,cH,bV,iM,fH,li]
       ·rw[if_neg hi]at mY
        obtain⟨ri,gri,mY⟩:=bS mY;obtain⟨ria,rib⟩:=qm gri;obtain⟨oi,goi,mY⟩:=bS mY;obtain⟨oia,oib⟩:=qm goi;obtain⟨xi,gxi,mY⟩:=bS mY;obtain⟨xia,xib⟩:=qm gxi;have xic:=zi gxi;obtain⟨r',gr'',mY⟩:=bS mY;obtain⟨l',gl',mY⟩:=bS mY;have e4:=xL gl';subst e4;have hE:=wA mY; subst hE;obtain⟨ki,ui,pa,vi2,vi3⟩:=f2.get rib;obtain⟨ko,uo,vo1,vo2,vo3⟩:=f2.get oib;have hko:ko≠ki:=fun q=> hi (by have:=f2.inj _ _ _ _ _ _ _ _ vo1 pa q; omega);have oi1:=qC pa;have oo1:=qC vo1;have ox1:zk none (List.drop cc.toNat (ri.map enc))=some (iI xi):=qC (by rw[gF,xib]; rfl);obtain⟨wc,wcl⟩:=d139 gr'' E4 c4 vi2 vo2 hko;have hi4:i < (l.length:Int):=j7;simp only[simprocAttr, -Int.reduceNatCast',R1,b133_4,hl_1,aG,aL,aP,bZ,cH,bV,iM,fH,li,eq_true j7,eq_false hi,rQ,eq_true hdl,ria,f1,f3,oi1,oo1,vi2,xia,eq_true xic,ox1,qQ,wc];refine ai rfl ⟨by rw[yD]; exact lj,(qi (by omega)).trans f1,f2.write rib pa wcl,(qi (by omega)).trans f3,?_⟩;simp only[simprocAttr, -Int.reduceNatCast',R1,hl_1,aG,aL,aP,bZ,cH,bV,iM,fH,li]
      ·clear hl_1 aG aL aP bZ aT cH bV lO lN
       rintro i q4 e ⟨E4,c4⟩ ⟨lj,f1,f2,f3,hl_1,aG,aL,aP,bZ,cH,bV,iM,fH⟩ dy t4 mY;unfold F133_4_D at mY;have hE:=wA mY; subst hE;simp only at f1 f2 f3;have aj:Go.IntKind.wrap .i64 (done+1)=d1:=wd1;by_cases hb:d1=(q4.length:Int)
       ·have hb':d1=(l.length:Int):=by omega
        have wsh:=slice_hi (key:=0) (uid:=u) (n:=l.length) (d:=d1) (by omega) (by omega);simp only[simprocAttr, -Int.reduceNatCast',R1,b133_4,hl_1,aG,aL,aP,bZ,cH,bV,iM,fH,eq_false dy,aj,eq_true hb',vL,yZ,wsh];intro ht; subst ht;rw[if_pos hb]at ho;have hE:=wA ho; subst hE;intro ht; subst ht;simp only[simprocAttr, -Int.reduceNatCast',R1,hl_1,aG,aL,aP,bZ,cH,bV,iM,fH,vL,yZ,wsh];simp only at hF;rw[if_pos ⟨by omega,by omega⟩]at hF;have hE:=wA hF; subst hE;have hrl:(q4.take d1.toNat).length=d1.toNat:=by simp; omega
        refine ai (fun _=> trivial) ⟨_,?_,u,nB,q4,rfl,f1,f2.mono fun k _ h=> h.1,by rw[hrl]⟩;simp only[simprocAttr, -Int.reduceNatCast',R1,qg,p133,Rs.ev,hl_1,hrl]
       ·have hb':¬d1=(l.length:Int):=by omega
        simp only[simprocAttr, -Int.reduceNatCast',R1,b133_4,hl_1,aG,aL,aP,bZ,cH,bV,iM,fH,eq_false dy,aj,eq_false hb',hw];intro ht; subst ht;rw[if_neg hb]at ho;have hE:=wA ho; subst hE;refine ai rfl ⟨u,nB,f1,f2.mono fun k _ h=> h.1,?_⟩;simp only[simprocAttr, -Int.reduceNatCast',R1,hl_1,aG,aL,aP,bZ,cH,bV,iM,fH,lj]
   ·clear hl_1 aG aL kR kQ iB g1 g2 k0 u0 v1 v2 v3 o1
    rintro cc ⟨l,done⟩ e ⟨E,c⟩ ⟨u,vs,g1,g2,hl_1,aG,aL,aP,cH,bV⟩ hge t1 ho;unfold F133_2_D at ho;have hE:=wA ho; subst hE;simp only at g1 g2 aL aP;simp only[simprocAttr, -Int.reduceNatCast',R1,b133_2,hl_1,aG,aL,aP,cH,bV,eq_false hge,vL,yZ];intro ht; subst ht;simp only at hF;split at hF
    case isFalse=> cases hF
    rename_i hdn;have wsh:=slice_hi (key:=0) (uid:=u) (n:=l.length) (d:=done) hdn.1 (by omega);have hE:=wA hF; subst hE;have hrl:(l.take done.toNat).length=done.toNat:=by simp; omega
    simp only[simprocAttr, -Int.reduceNatCast',R1,hl_1,wsh];refine ai (fun _=> trivial) ⟨_,?_,u,vs,l,rfl,g1,g2,by rw[hrl]⟩;simp only[simprocAttr, -Int.reduceNatCast',R1,qg,p133,Rs.ev,hl_1,hrl]
theorem s133(p:Int)(rows:aJ){r:aJ}(hF:F133 p rows=some r):ans A 133 [iI p,iL rows]=some (enc r):=by
 obtain⟨_,h',h1,u,vs,l,rfl,h2,h3,h4⟩:=d133 p rows hF;have hl:r.length≤l.length:=by have:=congrArg List.length h4; simp at this; omega
 have:=h3.fz h'.clk (key:=0) (uid:=u) (off:=0) (n:=r.length) h2 (by omega);rw[vO,←h4]at this;unfold ans;rw[h1];exact this
theorem t133(p:Int)(rows:aJ){r:aJ}(hF:F133 p rows=some r):tans A 133 [1] [iI p,iL rows]=some (enc r):=by
 obtain⟨_,h',h1,u,vs,l,rfl,h2,h3,h4⟩:=d133 p rows hF;have hl:r.length≤l.length:=by have:=congrArg List.length h4; simp at this; omega
 obtain⟨h2',q⟩:=h3.tk h'.clk (key:=0) (uid:=u) (n:=r.length) h2 (by decide) hl;rw[←h4]at q;unfold tans;rw[h1];show(match take 16 [1] (V.sl 0 u 0 r.length 1) ⟨h'.ents,h'.clk⟩with|some (t,_)=> some t|none=> none)=_;rw[q];rfl
def F102(a0:qe)(a1:Int):Option Int:=
 (F86 a0).bind fun x1=>
 (F56 a1 0 x1).bind fun x3=>
 if x3=true then
  (getI a0.D a1).bind fun x5=>
  some x5
 else
  some 0
theorem s102(a0:qe)(a1:Int){r:Int}(hF:F102 a0 a1=some r):ans A 102 [(eC a0),iI a1]=some (enc r):=by
 refine qB (f:=p102) rfl rfl rfl fun e hl he=>?_;have aA:=he 0 _ rfl;have aB:=he 1 _ rfl;have hl_0:e.length=15:=hl;clear he hl;have h_0:=ai hl_0 (ai aA aB);show W A b102 e ⟨[],0⟩ _;unfold F102 at hF;obtain⟨x1,bD,hF⟩:=bS hF;have w2:=s86 a0 bD;obtain⟨x3,dN,hF⟩:=bS hF;have w4:=s56 a1 0 x1 dN;cases x3 with
 |true=>
  rw[if_pos rfl]at hF;obtain⟨x5,dB,hF⟩:=bS hF;obtain⟨lH,lG⟩:=qm dB;cases hF;simp only[simprocAttr,R0,b102, *];exact qh (by simp only[simprocAttr,R0,qg,p102,Rs.ev,qd, *])
 |false=>
  rw[if_neg wD]at hF;cases hF;simp only[simprocAttr,R0,b102, *];exact qh (by simp only[simprocAttr,R0,qg,p102,Rs.ev,qd, *])
def F125_1_B(a0:Int)(a1:aJ)(x2:L1)(lK:Int)(aN:aJ):Option ((aJ)⊕(aJ)):=
 (getI a1 lK).bind fun x8=>
(F96 x8).bind fun eD=>
(appZ 8 eD (a1.length:Int) 0).bind fun pF=>
(chk ((x2.length:Int)+lK)).bind fun cW=>
(getI pF cW).bind fun fV=>
(setI pF cW 1).bind fun mM=>
(app 24 aN [mM]).bind fun uQ=>
some (.inl uQ)
def F125_1_D(a0:Int)(a1:aJ)(x2:L1)(lK:Int)(aN:aJ):Option (aJ):=
 some aN
def F125_2_B(a0:Int)(x2:L1)(fA:aJ)(lW:Int)(dP:aJ):Option ((aJ)⊕(aJ)):=
 (getI fA lW).bind fun kM=>
(slI kM 0 (x2.length:Int)).bind fun lh=>
(F92 lh).bind fun eH=>
if eH=true then
 (slI kM (x2.length:Int) (kM.length:Int)).bind fun lg=>
 (app 24 dP [lg]).bind fun l37=>
 some (.inl l37)
else
 some (.inl dP)
def F125_2_D(a0:Int)(x2:L1)(fA:aJ)(lW:Int)(dP:aJ):Option (aJ):=
 some dP
def F125(a0:Int)(a1:aJ):Option aJ:=
 if(a1.length:Int)=0 then
  some ([]:aJ)
 else
  (getI a1 0).bind fun x2=>
  (forR 0 (a1.length:Int) (F125_1_B a0 a1 x2) (F125_1_D a0 a1 x2) ([]:aJ)).bind fun aM=>
  (F133 a0 aM).bind fun fA=>
  (forR 0 (fA.length:Int) (F125_2_B a0 x2 fA) (F125_2_D a0 x2 fA) ([]:aJ)).bind fun dM=>
  (F133 a0 dM).bind fun pW=>
  some pW
def I125_1(a0:Int)(a1:aJ)(x2:L1)(lK:Int)(aN:aJ)(e:Env)(h:Heap):Prop:=
 ∃u5 k6:Nat,h=⟨[(u5,some (aN.map enc))],k6⟩∧e.length=67∧e.at 0=iI a0∧e.at 5=iI (a1.length:Int)∧e.at 6=iI (x2.length:Int)∧e.at 7=V.sl 0 u5 0 aN.length 1∧e.at 23=iL a1∧e.at 24=iI (a1.length:Int)∧e.at 25=iI lK
def P125_1(a0:Int)(a1:aJ)(x2:L1)(aM:aJ)(x:Ex)(e:Env)(h:Heap):Prop:=
 x= .normal∧∃u5 k6:Nat,h=⟨[(u5,some (aM.map enc))],k6⟩∧e.length=67∧e.at 0=iI a0∧e.at 6=iI (x2.length:Int)∧e.at 7=V.sl 0 u5 0 aM.length 1
theorem l125_1(a0:Int)(a1:aJ)(x2:L1){lo:Int}{s:aJ}{t:aJ}(hF:forR lo (a1.length:Int) (F125_1_B a0 a1 x2) (F125_1_D a0 a1 x2) s=some t){e:Env}{h:Heap}(hI:I125_1 a0 a1 x2 lo s e h):W A c125_1 e h (P125_1 a0 a1 x2 t):=by
 show W A (.block 0 (.loop false b125_1)) e h _;rw[qp];refine qF hF 1 (by obtain⟨_,_,rfl,_⟩:=hI; rfl) (I125_1 a0 a1 x2) hI ?_ ?_
 ·rintro lK aN e h ⟨u5,k6,rfl,h_4⟩ hlt hw o ho
  unfold F125_1_B at ho;obtain⟨x8,oJ,ho⟩:=bS ho;obtain⟨mo,mn⟩:=qm oJ;obtain⟨eD,eT,ho⟩:=bS ho;have sH:tans A 96 [1] [iL x8]=some (iL eD):=t96 x8 eT;have cg:=zm (α:=Int) eD;obtain⟨pF,tL,ho⟩:=bS ho;obtain⟨kV,kU,g8,cf,oz,f9⟩:=appZ_w tL;replace f9:List.map enc (List.replicate (Int.toNat (a1.length:Int)) (0:Int))=(List.replicate (Int.toNat (a1.length:Int)) [iI 0]).flatten:=f9;have pO:=fun a b c d e=> qA (α:=Int) (n:=eD.length) (m:=(Int.toNat (a1.length:Int))) (ds:=(List.replicate (Int.toNat (a1.length:Int)) [iI 0]).flatten) cf (by first|rfl|simp) oz f9 a b c d e;have ow:=qO cf;obtain⟨cW,dY,ho⟩:=bS ho;have sO:=qD dY;obtain⟨fV,iN,ho⟩:=bS ho;obtain⟨nX,nA⟩:=qm iN;have bz:=zi iN;have bx:List.drop (Int.toNat cW) (pF.map enc)=(iI fV)::List.drop ((Int.toNat cW)+1) (pF.map enc):=xh nA;obtain⟨mM,mV,ho⟩:=bS ho;obtain⟨rI,nW,sU,mH,sT⟩:=xB mV;replace sT:List.take (Int.toNat cW) (pF.map enc)++[iI 1]++List.drop (Int.toNat cW+1) (pF.map enc)=List.map enc mM:=sT;obtain⟨uQ,nN,ho⟩:=bS ho;have iz:=fun a b c d e=> qA (α:=L1) (n:=aN.length) (m:=1) (ds:=[iL mM]) nN (by first|rfl|simp only[mH]) (by first|rfl|simp only[mH]) rfl a b c d e;have bp:=qO nN;cases ho;simp only[simprocAttr, -Int.reduceNatCast',R0,b125_1,h_4,eq_true hlt,hw,mo,mn,sH,cg,kV,kU,g8,pO,sO,nX,nA,bz,bx,rI,nW,sU,sT,qR (α:=Int) mM,kq (α:=Int) (l:=mM) (n:=pF.length) (by first|rfl|simp only[mH]),le_of_len (α:=Int) (l:=mM) (n:=pF.length) (by first|rfl|simp only[mH]),iz];refine ai rfl (ei _ (ei _ (ai rfl ?_)));simp only[simprocAttr, -Int.reduceNatCast',R0,h_4,eq_true hlt,hw,mo,mn,sH,cg,kV,kU,g8,pO,sO,nX,nA,bz,bx,rI,nW,sU,sT,qR (α:=Int) mM,kq (α:=Int) (l:=mM) (n:=pF.length) (by first|rfl|simp only[mH]),le_of_len (α:=Int) (l:=mM) (n:=pF.length) (by first|rfl|simp only[mH]),iz,mH]
 ·rintro lK aN e h ⟨u5,k6,rfl,h_4⟩ hge t1 ho
  unfold F125_1_D at ho;cases ho;simp only[simprocAttr, -Int.reduceNatCast',R0,b125_1,h_4,eq_false hge];intro ht; subst ht;refine ai rfl (ei _ (ei _ (ai rfl ?_)));simp only[simprocAttr, -Int.reduceNatCast',R0,h_4,eq_false hge]
def I125_2(a0:Int)(x2:L1)(fA:aJ)(lW:Int)(dP:aJ)(e:Env)(h:Heap):Prop:=
 ∃tX z6:Nat,h=⟨[(0,none),(tX,some (dP.map enc))],z6⟩∧e.length=67∧e.at 0=iI a0∧e.at 6=iI (x2.length:Int)∧e.at 11=V.sl 1 tX 0 dP.length 1∧e.at 47=iL fA∧e.at 48=iI (fA.length:Int)∧e.at 49=iI lW
def P125_2(a0:Int)(x2:L1)(fA:aJ)(dM:aJ)(x:Ex)(e:Env)(h:Heap):Prop:=
 x= .normal∧∃tX z6:Nat,h=⟨[(0,none),(tX,some (dM.map enc))],z6⟩∧e.length=67∧e.at 0=iI a0∧e.at 11=V.sl 1 tX 0 dM.length 1
theorem l125_2(a0:Int)(x2:L1)(fA:aJ){lo:Int}{s:aJ}{t:aJ}(hF:forR lo (fA.length:Int) (F125_2_B a0 x2 fA) (F125_2_D a0 x2 fA) s=some t){e:Env}{h:Heap}(hI:I125_2 a0 x2 fA lo s e h):W A c125_2 e h (P125_2 a0 x2 fA t):=by
 show W A (.block 2 (.loop false b125_2)) e h _;rw[qp];refine qF hF 2 (by obtain⟨_,_,rfl,_⟩:=hI; rfl) (I125_2 a0 x2 fA) hI ?_ ?_
 ·rintro lW dP e h ⟨tX,z6,rfl,h_24⟩ hlt hw o ho
  unfold F125_2_B at ho;obtain⟨kM,oV,ho⟩:=bS ho;obtain⟨nm,nl⟩:=qm oV;obtain⟨lh,vd,ho⟩:=bS ho;have aw:xA 1 (iL kM) none (some (iI (x2.length:Int)))=some (iL lh):=sliceV_w (α:=Int) One.one vd (.inl ⟨rfl,rfl⟩) (.inr rfl);obtain⟨eH,mT,ho⟩:=bS ho;have nh:=s92 lh mT;cases eH with
  |true=>
   rw[if_pos rfl]at ho;obtain⟨lg,uz,ho⟩:=bS ho;have w35:xA 1 (iL kM) (some (iI (x2.length:Int))) none=some (iL lg):=sliceV_w (α:=Int) One.one uz (.inr rfl) (.inl ⟨rfl,rfl⟩);obtain⟨l37,ib,ho⟩:=bS ho;have w36:=fun a b c d e=> qA (α:=L1) (n:=dP.length) (m:=1) (ds:=[iL lg]) ib (by first|rfl|simp) (by first|rfl|simp) rfl a b c d e;have w36l:=qO ib;cases ho;simp only[simprocAttr,R0,b125_2, *];refine ai rfl (ei _ (ei _ (ai rfl ?_)));simp only[simprocAttr,R0, *]
  |false=>
   rw[if_neg wD]at ho;cases ho;simp only[simprocAttr,R0,b125_2, *];refine ai rfl (ei _ (ei _ (ai rfl ?_)));simp only[simprocAttr,R0, *]
 ·rintro lW dP e h ⟨tX,z6,rfl,h_24⟩ hge t1 ho
  unfold F125_2_D at ho;cases ho;simp only[simprocAttr,R0,b125_2, *];intro ht; subst ht;refine ai rfl (ei _ (ei _ (ai rfl ?_)));simp only[simprocAttr,R0, *]
theorem s125(a0:Int)(a1:aJ){r:aJ}(hF:F125 a0 a1=some r):ans A 125 [iI a0,iL a1]=some (enc r):=by
 refine qB (f:=p125) rfl rfl rfl fun e hl he=>?_;have aA:=he 0 _ rfl;have aB:=he 1 _ rfl;have hl_0:e.length=67:=hl;clear he hl;have h_0:=ai hl_0 (ai aA aB);show W A b125 e ⟨[],0⟩ _;unfold F125 at hF;by_cases c1:(a1.length:Int)=0
 ·rw[if_pos c1]at hF
  cases hF;simp only[simprocAttr,R0,b125, *];exact qh (by simp only[simprocAttr,R0,qg,p125,Rs.ev,qd, *])
 ·rw[if_neg c1]at hF
  obtain⟨x2,iS,hF⟩:=bS hF;obtain⟨w3a,na⟩:=qm iS;replace na:a1[0]? =some x2:=na;obtain⟨aM,oY,hF⟩:=bS hF;simp only[simprocAttr,R0,b125, *];refine W.mono (l125_1 a0 a1 x2 oY (ei _ (ei _ (ai rfl ?_)))) ?_
  ·simp only[simprocAttr,R0, *]
  rintro _ e _ ⟨rfl,u5,k6,rfl,h_7⟩;obtain⟨fA,iQ,hF⟩:=bS hF;have w23:=s133 a0 aM iQ;obtain⟨dM,uj,hF⟩:=bS hF;simp only[simprocAttr,R0,qR (α:=L1) aM, *];refine W.mono (l125_2 a0 x2 fA uj (ei _ (ei _ (ai rfl ?_)))) ?_
  ·simp only[simprocAttr,R0,qR (α:=L1) aM, *]
  rintro _ e _ ⟨rfl,tX,z6,rfl,h_27⟩;obtain⟨pW,rY,hF⟩:=bS hF;have w40:=s133 a0 dM rY;cases hF;simp only[simprocAttr,R0,qR (α:=L1) dM, *];exact qh (by simp only[simprocAttr,R0,qg,p125,Rs.ev,qd,qR (α:=L1) dM, *])
def F202_1_B(a2:Int)(x5:L1)(cQ:Int)(aD:L1):Option ((L1)⊕(L1)):=
 (getI x5 cQ).bind fun bC=>
if bC≤a2 then
 (app 8 aD [cQ]).bind fun uR=>
 some (.inl uR)
else
 some (.inl aD)
def F202_1_D(a2:Int)(x5:L1)(cQ:Int)(aD:L1):Option (L1):=
 some aD
def F202(a0:qc)(a1:Int)(a2:Int):Option L1:=
 (F86 a0.C).bind fun x1=>
 (F56 a1 0 x1).bind fun x3=>
 if x3=true then
  (getI a0.L a1).bind fun x5=>
  (forR 0 (x5.length:Int) (F202_1_B a2 x5) (F202_1_D a2 x5) ([]:L1)).bind fun aF=>
  some aF
 else
  some []
def I202_1(a2:Int)(x5:L1)(cQ:Int)(aD:L1)(e:Env)(h:Heap):Prop:=
 ∃u8 k9:Nat,h=⟨[(0,none),(u8,some (aD.map enc))],k9⟩∧e.length=38∧e.at 2=iI a2∧e.at 7=V.sl 1 u8 0 aD.length 1∧e.at 22=iL x5∧e.at 23=iI (x5.length:Int)∧e.at 24=iI cQ
def P202_1(a2:Int)(x5:L1)(aF:L1)(x:Ex)(e:Env)(h:Heap):Prop:=
 x= .normal∧∃u8 k9:Nat,h=⟨[(0,none),(u8,some (aF.map enc))],k9⟩∧e.length=38∧e.at 7=V.sl 1 u8 0 aF.length 1
theorem l202_1(a2:Int)(x5:L1){lo:Int}{s:L1}{t:L1}(hF:forR lo (x5.length:Int) (F202_1_B a2 x5) (F202_1_D a2 x5) s=some t){e:Env}{h:Heap}(hI:I202_1 a2 x5 lo s e h):W A c202_1 e h (P202_1 a2 x5 t):=by
 show W A (.block 0 (.loop false b202_1)) e h _;rw[qp];refine qF hF 2 (by obtain⟨_,_,rfl,_⟩:=hI; rfl) (I202_1 a2 x5) hI ?_ ?_
 ·rintro cQ aD e h ⟨u8,k9,rfl,h_7⟩ hlt hw o ho
  unfold F202_1_B at ho;obtain⟨bC,dU,ho⟩:=bS ho;obtain⟨kV,kU⟩:=qm dU;by_cases sG:bC≤a2
  ·rw[if_pos sG]at ho
   obtain⟨uR,nP,ho⟩:=bS ho;have sV:=fun a b c d e=> qA (α:=Int) (n:=aD.length) (m:=1) (ds:=[iI cQ]) nP (by first|rfl|simp) (by first|rfl|simp) rfl a b c d e;have ce:=qO nP;cases ho;simp only[simprocAttr,R0,b202_1, *];refine ai rfl (ei _ (ei _ (ai rfl ?_)));simp only[simprocAttr,R0, *]
  ·rw[if_neg sG]at ho
   cases ho;simp only[simprocAttr,R0,b202_1, *];refine ai rfl (ei _ (ei _ (ai rfl ?_)));simp only[simprocAttr,R0, *]
 ·rintro cQ aD e h ⟨u8,k9,rfl,h_7⟩ hge t1 ho
  unfold F202_1_D at ho;cases ho;simp only[simprocAttr,R0,b202_1, *];intro ht; subst ht;refine ai rfl (ei _ (ei _ (ai rfl ?_)));simp only[simprocAttr,R0, *]
theorem s202(a0:qc)(a1:Int)(a2:Int){r:L1}(hF:F202 a0 a1 a2=some r):ans A 202 [(eF a0),iI a1,iI a2]=some (enc r):=by
 refine qB (f:=p202) rfl rfl rfl fun e hl he=>?_;have aA:=he 0 _ rfl;have aB:=he 1 _ rfl;have aU:=he 2 _ rfl;have hl_0:e.length=38:=hl;clear he hl;show W A b202 e ⟨[],0⟩ _;unfold F202 at hF;obtain⟨x1,bD,hF⟩:=bS hF;have w2:=s86 a0.C bD;obtain⟨x3,dN,hF⟩:=bS hF;have w4:=s56 a1 0 x1 dN;cases x3 with
 |true=>
  rw[if_pos rfl]at hF;obtain⟨x5,dB,hF⟩:=bS hF;obtain⟨lH,lG⟩:=qm dB;obtain⟨aF,pU,hF⟩:=bS hF;simp only[simprocAttr, -Int.reduceNatCast',R0,b202, *];refine W.mono (l202_1 a2 x5 pU (ei _ (ei _ (ai rfl ?_)))) ?_
  ·simp only[simprocAttr, -Int.reduceNatCast',R0, *]
  rintro _ e _ ⟨rfl,u8,k9,rfl,hl_10,h7_10⟩;have hE:=wA hF; subst hE;simp only[simprocAttr, -Int.reduceNatCast',R0, *];exact qh (by simp only[simprocAttr, -Int.reduceNatCast',R0,qg,p202,Rs.ev,qd,frzs (α:=Int) aF,qR (α:=Int) aF, *])
 |false=>
  rw[if_neg wD]at hF;have hE:=wA hF; subst hE;simp only[simprocAttr, -Int.reduceNatCast',R0,b202, *];exact qh (by simp only[simprocAttr, -Int.reduceNatCast',R0,qg,p202,Rs.ev,qd, *])
def kJ(a0:L1)(a1:Int)(aS:Int)(s:Unit):Option ((Unit)⊕((Unit)⊕Int)):=
 (getI a0 aS).bind fun x4=>
if a1=x4 then
 some (.inr (.inr aS))
else
 some (.inl ())
def F211_1_D(a0:L1)(a1:Int)(aS:Int)(s:Unit):Option ((Unit)⊕Int):=
 some (.inl ())
def F211(a0:L1)(a1:Int):Option Int:=
 (forR 0 (a0.length:Int) (kJ a0 a1) (F211_1_D a0 a1) ()).bind fun t7=> match t7 with
  | .inl _=>
   some (-1)
  | .inr r8=> some r8
def I211_1(a0:L1)(a1:Int)(aS:Int)(s:Unit)(e:Env)(h:Heap):Prop:=
 ∃k2:Nat,h=⟨[],k2⟩∧e.length=19∧e.at 0=iL a0∧e.at 1=iI a1∧e.at 7=iI (a0.length:Int)∧e.at 8=iI aS
def P211_1(a0:L1)(a1:Int)(t:(Unit)⊕Int)(x:Ex)(e:Env)(h:Heap):Prop:=
 match t with
 | .inl _=> x= .normal∧∃k2:Nat,h=⟨[],k2⟩∧e.length=19
 | .inr r=> x= .ret∧Fin p211 (enc r) .ret e h
theorem l211_1(a0:L1)(a1:Int){lo:Int}{s:Unit}{t:(Unit)⊕Int}(hF:forR lo (a0.length:Int) (kJ a0 a1) (F211_1_D a0 a1) s=some t){e:Env}{h:Heap}(hI:I211_1 a0 a1 lo s e h):W A c211_1 e h (P211_1 a0 a1 t):=by
 show W A (.block 0 (.loop false b211_1)) e h _;rw[qp];refine qF hF 0 (by obtain⟨_,rfl,_⟩:=hI; rfl) (I211_1 a0 a1) hI ?_ ?_
 ·rintro aS _ e h ⟨k2,rfl,h_1⟩ hlt hw o ho
  unfold kJ at ho;obtain⟨x4,fM,ho⟩:=bS ho;obtain⟨sS,sR⟩:=qm fM;by_cases c6:a1=x4
  ·rw[if_pos c6]at ho
   cases ho;simp only[simprocAttr,R0,b211_1, *];intro ht; subst ht;simp only[simprocAttr,RR,RB];exact ai rfl (qh (by simp only[simprocAttr,R0,qg,p211,Rs.ev,qd, *]))
  ·rw[if_neg c6]at ho
   cases ho;simp only[simprocAttr,R0,b211_1, *];refine ai rfl (ei _ (ai rfl ?_));simp only[simprocAttr,R0, *]
 ·rintro aS _ e h ⟨k2,rfl,h_1⟩ hge t1 ho
  unfold F211_1_D at ho;cases ho;simp only[simprocAttr,R0,b211_1, *];intro ht; subst ht;refine ai rfl (ei _ (ai rfl ?_));simp only[simprocAttr,R0, *]
theorem s211(a0:L1)(a1:Int){r:Int}(hF:F211 a0 a1=some r):ans A 211 [iL a0,iI a1]=some (enc r):=by
 refine qB (f:=p211) rfl rfl rfl fun e hl he=>?_;have aA:=he 0 _ rfl;have aB:=he 1 _ rfl;have hl_0:e.length=19:=hl;clear he hl;have h_0:=ai hl_0 (ai aA aB);show W A b211 e ⟨[],0⟩ _;unfold F211 at hF;obtain⟨t7,o8,hF⟩:=bS hF;rcases t7 with _|r8
 ·dsimp only at hF
  simp only[simprocAttr,R0,b211, *];refine W.mono (l211_1 a0 a1 o8 (ei _ (ai rfl ?_))) ?_
  ·simp only[simprocAttr,R0, *]
  rintro _ e _ ⟨rfl,k2,rfl,hl_3⟩;cases hF;simp only[simprocAttr,R0, *];exact qh (by simp only[simprocAttr,R0,qg,p211,Rs.ev,qd, *])
 ·dsimp only at hF
  cases hF;simp only[simprocAttr,R0,b211, *];refine W.mono (l211_1 a0 a1 o8 (ei _ (ai rfl ?_))) ?_
  ·simp only[simprocAttr,R0, *]
  rintro _ e h ⟨rfl,hq⟩;simp only[simprocAttr,RR,RB];exact hq
def F203(a0:L1)(a1:Int):Option Bool:=
 (F211 a0 a1).bind fun x1=>
 some (decide (0≤x1))
theorem s203(a0:L1)(a1:Int){r:Bool}(hF:F203 a0 a1=some r):ans A 203 [iL a0,iI a1]=some (enc r):=by
 refine qB (f:=p203) rfl rfl rfl fun e hl he=>?_;have aA:=he 0 _ rfl;have aB:=he 1 _ rfl;have hl_0:e.length=9:=hl;clear he hl;show W A b203 e ⟨[],0⟩ _;unfold F203 at hF;obtain⟨x1,bD,hF⟩:=bS hF;have w2:=s211 a0 a1 bD;cases hF;simp only[simprocAttr,R0,b203, *];exact qh (by simp only[simprocAttr,R0,qg,p203,Rs.ev,qd, *])
def F184_1_B(a0:qc)(a1:Int)(a2:Int)(a3:Int)(x1:L1)(x4:Int)(iH:Int)(aH:L1):Option ((L1)⊕(L1)):=
 (chk (a2 - 1)).bind fun eD=>
(chk (a3 - a1)).bind fun bC=>
(F202 a0 eD bC).bind fun kT=>
(F203 kT iH).bind fun cW=>
if cW=true then
 some (.inl aH)
else
 (app 8 aH [iH]).bind fun mM=>
 some (.inl mM)
def F184_1_D(a0:qc)(a1:Int)(a2:Int)(a3:Int)(x1:L1)(x4:Int)(iH:Int)(aH:L1):Option (L1):=
 some aH
def F184_3_B(a0:qc)(a2:Int)(x1:L1)(aC:L1)(bP:aJ)(dK:Int)(nU:Int)(kN:Int)(mL:L1):Option ((L1)⊕(L1)):=
 (getI aC kN).bind fun eB=>
(chk (a2 - 1)).bind fun x31=>
(getI a0.C.M x31).bind fun eH=>
(getI eH nU).bind fun iF=>
(getI iF eB).bind fun fN=>
(app 8 mL [fN]).bind fun l39=>
some (.inl l39)
def F184_3_D(a0:qc)(a2:Int)(x1:L1)(aC:L1)(bP:aJ)(dK:Int)(nU:Int)(kN:Int)(mL:L1):Option (L1):=
 some mL
def F184_2_B(a0:qc)(a2:Int)(x1:L1)(aC:L1)(dK:Int)(bP:aJ):Option ((aJ)⊕(aJ)):=
 (getI x1 dK).bind fun nU=>
(forR 0 ((aC.length:Nat):Int) (F184_3_B a0 a2 x1 aC bP dK nU) (F184_3_D a0 a2 x1 aC bP dK nU) ([]:L1)).bind fun iY=>
(app 24 bP [iY]).bind fun l42=>
some (.inl l42)
def F184_2_D(a0:qc)(a2:Int)(x1:L1)(aC:L1)(dK:Int)(bP:aJ):Option (aJ):=
 some bP
def F184_5_B(a0:qc)(a2:Int)(x1:L1)(aC:L1)(eA:aJ)(dW:aJ)(dJ:Int)(kS:L1)(iC:Int)(iP:L1):Option ((L1)⊕(L1)):=
 (getI x1 iC).bind fun a7=>
(getI kS iC).bind fun rF=>
(getI iP a7).bind fun x64=>
(setI iP a7 rF).bind fun rg=>
some (.inl rg)
def F184_5_D(a0:qc)(a2:Int)(x1:L1)(aC:L1)(eA:aJ)(dW:aJ)(dJ:Int)(kS:L1)(iC:Int)(iP:L1):Option (L1):=
 some iP
def F184_4_B(a0:qc)(a2:Int)(x1:L1)(aC:L1)(eA:aJ)(dJ:Int)(dW:aJ):Option ((aJ)⊕(aJ)):=
 (getI eA dJ).bind fun kS=>
(F102 a0.C a2).bind fun lu=>
(mkL 8 lu 0).bind fun v8=>
(forR 0 (x1.length:Int) (F184_5_B a0 a2 x1 aC eA dW dJ kS) (F184_5_D a0 a2 x1 aC eA dW dJ kS) v8).bind fun iW=>
(app 24 dW [iW]).bind fun l70=>
some (.inl l70)
def F184_4_D(a0:qc)(a2:Int)(x1:L1)(aC:L1)(eA:aJ)(dJ:Int)(dW:aJ):Option (aJ):=
 some dW
def F184(a0:qc)(a1:Int)(a2:Int)(a3:Int):Option aJ:=
 (F202 a0 a2 a3).bind fun x1=>
 (chk (a2 - 1)).bind fun x3=>
 (F102 a0.C x3).bind fun x4=>
 (forR 0 x4 (F184_1_B a0 a1 a2 a3 x1 x4) (F184_1_D a0 a1 a2 a3 x1 x4) ([]:L1)).bind fun aC=>
 (forR 0 (x1.length:Int) (F184_2_B a0 a2 x1 aC) (F184_2_D a0 a2 x1 aC) ([]:aJ)).bind fun bO=>
 (F125 a0.C.P bO).bind fun eA=>
 (forR 0 (eA.length:Int) (F184_4_B a0 a2 x1 aC eA) (F184_4_D a0 a2 x1 aC eA) ([]:aJ)).bind fun eU=>
 (F133 a0.C.P eU).bind fun rE=>
 some rE
def I184_1(a0:qc)(a1:Int)(a2:Int)(a3:Int)(x1:L1)(x4:Int)(iH:Int)(aH:L1)(e:Env)(h:Heap):Prop:=
 ∃u7 k8:Nat,h=⟨[(0,none),(1,some [iI a0.C.P,iL a0.C.D,iL a0.C.M]),(2,some []),(u7,some (aH.map enc))],k8⟩∧e.length=127∧e.at 1=iI a1∧e.at 2=iI a2∧e.at 3=iI a3∧e.at 4=eQ a0∧e.at 9=V.ptr 1 1 0∧e.at 10=iL x1∧e.at 11=V.sl 2 2 0 0 1∧e.at 12=V.sl 3 u7 0 aH.length 1∧e.at 36=iI x4∧e.at 37=iI iH
def P184_1(a0:qc)(a1:Int)(a2:Int)(a3:Int)(x1:L1)(x4:Int)(aC:L1)(x:Ex)(e:Env)(h:Heap):Prop:=
 x= .normal∧∃u7 k8:Nat,h=⟨[(0,none),(1,some [iI a0.C.P,iL a0.C.D,iL a0.C.M]),(2,some []),(u7,some (aC.map enc))],k8⟩∧e.length=127∧e.at 2=iI a2∧e.at 9=V.ptr 1 1 0∧e.at 10=iL x1∧e.at 11=V.sl 2 2 0 0 1∧e.at 12=V.sl 3 u7 0 aC.length 1
theorem l184_1(a0:qc)(a1:Int)(a2:Int)(a3:Int)(x1:L1)(x4:Int){lo:Int}{s:L1}{t:L1}(hF:forR lo x4 (F184_1_B a0 a1 a2 a3 x1 x4) (F184_1_D a0 a1 a2 a3 x1 x4) s=some t){e:Env}{h:Heap}(hI:I184_1 a0 a1 a2 a3 x1 x4 lo s e h):W A c184_1 e h (P184_1 a0 a1 a2 a3 x1 x4 t):=by
 show W A (.block 0 (.loop false b184_1)) e h _;rw[qp];refine qF hF 4 (by obtain⟨_,_,rfl,_⟩:=hI; rfl) (I184_1 a0 a1 a2 a3 x1 x4) hI ?_ ?_
 ·rintro iH aH e h ⟨u7,k8,rfl,h_6⟩ hlt hw o ho
  unfold F184_1_B at ho;obtain⟨eD,eT,ho⟩:=bS ho;have sP:=qD eT;obtain⟨bC,dU,ho⟩:=bS ho;have wx11:=qD dU;obtain⟨kT,kX,ho⟩:=bS ho;have lc:=s202 a0 eD bC kX;obtain⟨cW,dY,ho⟩:=bS ho;have rA:=s203 kT iH dY;cases cW with
  |true=>
   rw[if_pos rfl]at ho;cases ho;simp only[simprocAttr,R0,b184_1, *];refine ai rfl (ei _ (ei _ (ai rfl ?_)));simp only[simprocAttr,R0, *]
  |false=>
   rw[if_neg wD]at ho;obtain⟨mM,mV,ho⟩:=bS ho;have w16:=fun a b c d e=> qA (α:=Int) (n:=aH.length) (m:=1) (ds:=[iI iH]) mV (by first|rfl|simp) (by first|rfl|simp) rfl a b c d e;have oh:=qO mV;cases ho;simp only[simprocAttr,R0,b184_1, *];refine ai rfl (ei _ (ei _ (ai rfl ?_)));simp only[simprocAttr,R0, *]
 ·rintro iH aH e h ⟨u7,k8,rfl,h_6⟩ hge t1 ho
  unfold F184_1_D at ho;cases ho;simp only[simprocAttr,R0,b184_1, *];intro ht; subst ht;refine ai rfl (ei _ (ei _ (ai rfl ?_)));simp only[simprocAttr,R0, *]
def I184_3(a0:qc)(a2:Int)(x1:L1)(aC:L1)(bP:aJ)(dK:Int)(nU:Int)(u7 mA:Nat)(kN:Int)(mL:L1)(e:Env)(h:Heap):Prop:=
 ∃tW mO:Nat,h=⟨[(0,none),(1,some [iI a0.C.P,iL a0.C.D,iL a0.C.M]),(mA,some (bP.map enc)),(u7,some (aC.map enc)),(tW,some (mL.map enc))],mO⟩∧e.length=127∧e.at 2=iI a2∧e.at 9=V.ptr 1 1 0∧e.at 10=iL x1∧e.at 11=V.sl 2 mA 0 bP.length 1∧e.at 12=V.sl 3 u7 0 aC.length 1∧e.at 15=iI nU∧e.at 16=V.sl 4 tW 0 mL.length 1∧e.at 55=iL x1∧e.at 56=iI (x1.length:Int)∧e.at 57=iI dK∧e.at 62=V.sl 3 u7 0 aC.length 1∧e.at 63=iI ((aC.length:Nat):Int)∧e.at 64=iI kN
def P184_3(a0:qc)(a2:Int)(x1:L1)(aC:L1)(bP:aJ)(dK:Int)(nU:Int)(u7 mA:Nat)(iY:L1)(x:Ex)(e:Env)(h:Heap):Prop:=
 x= .normal∧∃tW mO:Nat,h=⟨[(0,none),(1,some [iI a0.C.P,iL a0.C.D,iL a0.C.M]),(mA,some (bP.map enc)),(u7,some (aC.map enc)),(tW,some (iY.map enc))],mO⟩∧e.length=127∧e.at 2=iI a2∧e.at 9=V.ptr 1 1 0∧e.at 10=iL x1∧e.at 11=V.sl 2 mA 0 bP.length 1∧e.at 12=V.sl 3 u7 0 aC.length 1∧e.at 16=V.sl 4 tW 0 iY.length 1∧e.at 55=iL x1∧e.at 56=iI (x1.length:Int)∧e.at 57=iI dK
theorem l184_3(a0:qc)(a2:Int)(x1:L1)(aC:L1)(bP:aJ)(dK:Int)(nU:Int)(u7 mA:Nat){lo:Int}{s:L1}{t:L1}(hF:forR lo ((aC.length:Nat):Int) (F184_3_B a0 a2 x1 aC bP dK nU) (F184_3_D a0 a2 x1 aC bP dK nU) s=some t){e:Env}{h:Heap}(hI:I184_3 a0 a2 x1 aC bP dK nU u7 mA lo s e h):W A c184_3 e h (P184_3 a0 a2 x1 aC bP dK nU u7 mA t):=by
 show W A (.block 4 (.loop false b184_3)) e h _;rw[qp];refine qF hF 5 (by obtain⟨_,_,rfl,_⟩:=hI; rfl) (I184_3 a0 a2 x1 aC bP dK nU u7 mA) hI ?_ ?_
 ·rintro kN mL e h ⟨tW,mO,rfl,h_25⟩ hlt hw o ho
  unfold F184_3_B at ho;obtain⟨eB,lS,ho⟩:=bS ho;obtain⟨nj,ax⟩:=qm lS;have w30c:=zi lS;have w30d:List.drop (Int.toNat kN) (aC.map enc)=(iI eB)::List.drop ((Int.toNat kN)+1) (aC.map enc):=xh ax;obtain⟨x31,tv,ho⟩:=bS ho;have wx31:=qD tv;obtain⟨eH,mT,ho⟩:=bS ho;obtain⟨ng,nf⟩:=qm mT;obtain⟨iF,oO,ho⟩:=bS ho;obtain⟨av,au⟩:=qm oO;obtain⟨fN,oK,ho⟩:=bS ho;obtain⟨nd,nc⟩:=qm oK;obtain⟨l39,ia,ho⟩:=bS ho;have w38:=fun a b c d e=> qA (α:=Int) (n:=mL.length) (m:=1) (ds:=[iI fN]) ia (by first|rfl|simp) (by first|rfl|simp) rfl a b c d e;have w38l:=qO ia;cases ho;simp only[simprocAttr,R0,b184_3, *];refine ai rfl (ei _ (ei _ (ai rfl ?_)));simp only[simprocAttr,R0, *]
 ·rintro kN mL e h ⟨tW,mO,rfl,h_25⟩ hge t1 ho
  unfold F184_3_D at ho;cases ho;simp only[simprocAttr,R0,b184_3, *];intro ht; subst ht;refine ai rfl (ei _ (ei _ (ai rfl ?_)));simp only[simprocAttr,R0, *]
def I184_2(a0:qc)(a2:Int)(x1:L1)(aC:L1)(u7:Nat)(dK:Int)(bP:aJ)(e:Env)(h:Heap):Prop:=
 ∃mA i9:Nat,h=⟨[(0,none),(1,some [iI a0.C.P,iL a0.C.D,iL a0.C.M]),(mA,some (bP.map enc)),(u7,some (aC.map enc))],i9⟩∧e.length=127∧e.at 2=iI a2∧e.at 9=V.ptr 1 1 0∧e.at 10=iL x1∧e.at 11=V.sl 2 mA 0 bP.length 1∧e.at 12=V.sl 3 u7 0 aC.length 1∧e.at 55=iL x1∧e.at 56=iI (x1.length:Int)∧e.at 57=iI dK
def P184_2(a0:qc)(a2:Int)(x1:L1)(aC:L1)(u7:Nat)(bO:aJ)(x:Ex)(e:Env)(h:Heap):Prop:=
 x= .normal∧∃mA i9:Nat,h=⟨[(0,none),(1,some [iI a0.C.P,iL a0.C.D,iL a0.C.M]),(mA,some (bO.map enc)),(u7,some (aC.map enc))],i9⟩∧e.length=127∧e.at 2=iI a2∧e.at 9=V.ptr 1 1 0∧e.at 10=iL x1∧e.at 11=V.sl 2 mA 0 bO.length 1
theorem l184_2(a0:qc)(a2:Int)(x1:L1)(aC:L1)(u7:Nat){lo:Int}{s:aJ}{t:aJ}(hF:forR lo (x1.length:Int) (F184_2_B a0 a2 x1 aC) (F184_2_D a0 a2 x1 aC) s=some t){e:Env}{h:Heap}(hI:I184_2 a0 a2 x1 aC u7 lo s e h):W A c184_2 e h (P184_2 a0 a2 x1 aC u7 t):=by
 show W A (.block 2 (.loop false b184_2)) e h _;rw[qp];refine qF hF 4 (by obtain⟨_,_,rfl,_⟩:=hI; rfl) (I184_2 a0 a2 x1 aC u7) hI ?_ ?_
 ·rintro dK bP e h ⟨mA,i9,rfl,h_19⟩ hlt hw o ho
  unfold F184_2_B at ho;obtain⟨nU,tx,ho⟩:=bS ho;obtain⟨nq,np⟩:=qm tx;obtain⟨iY,uh,ho⟩:=bS ho;simp only[simprocAttr,R0,b184_2, *];refine W.mono (l184_3 a0 a2 x1 aC bP dK nU u7 mA uh (ei _ (ei _ (ai rfl ?_)))) ?_
  ·simp only[simprocAttr,R0, *]
  rintro _ e _ ⟨rfl,tW,mO,rfl,h_28⟩;obtain⟨l42,fy,ho⟩:=bS ho;have w41:=fun a b c d e=> qA (α:=L1) (n:=bP.length) (m:=1) (ds:=[iL iY]) fy (by first|rfl|simp) (by first|rfl|simp) rfl a b c d e;have w41l:=qO fy;cases ho;simp only[simprocAttr,R0,qR (α:=Int) iY, *];refine ai rfl (ei _ (ei _ (ai rfl ?_)));simp only[simprocAttr,R0,qR (α:=Int) iY, *]
 ·rintro dK bP e h ⟨mA,i9,rfl,h_19⟩ hge t1 ho
  unfold F184_2_D at ho;cases ho;simp only[simprocAttr,R0,b184_2, *];intro ht; subst ht;refine ai rfl (ei _ (ei _ (ai rfl ?_)));simp only[simprocAttr,R0, *]
def I184_5(a0:qc)(a2:Int)(x1:L1)(aC:L1)(eA:aJ)(dW:aJ)(dJ:Int)(kS:L1)(u7 lZ:Nat)(iC:Int)(iP:L1)(e:Env)(h:Heap):Prop:=
 ∃tU v9:Nat,h=⟨[(0,none),(1,some [iI a0.C.P,iL a0.C.D,iL a0.C.M]),(0,none),(u7,some (aC.map enc)),(lZ,some (dW.map enc)),(tU,some (iP.map enc))],v9⟩∧e.length=127∧e.at 2=iI a2∧e.at 9=V.ptr 1 1 0∧e.at 10=iL x1∧e.at 19=V.sl 4 lZ 0 dW.length 1∧e.at 21=iL kS∧e.at 22=V.sl 5 tU 0 iP.length 1∧e.at 93=iL eA∧e.at 94=iI (eA.length:Int)∧e.at 95=iI dJ∧e.at 103=iL x1∧e.at 104=iI (x1.length:Int)∧e.at 105=iI iC
def P184_5(a0:qc)(a2:Int)(x1:L1)(aC:L1)(eA:aJ)(dW:aJ)(dJ:Int)(kS:L1)(u7 lZ:Nat)(iW:L1)(x:Ex)(e:Env)(h:Heap):Prop:=
 x= .normal∧∃tU v9:Nat,h=⟨[(0,none),(1,some [iI a0.C.P,iL a0.C.D,iL a0.C.M]),(0,none),(u7,some (aC.map enc)),(lZ,some (dW.map enc)),(tU,some (iW.map enc))],v9⟩∧e.length=127∧e.at 2=iI a2∧e.at 9=V.ptr 1 1 0∧e.at 10=iL x1∧e.at 19=V.sl 4 lZ 0 dW.length 1∧e.at 22=V.sl 5 tU 0 iW.length 1∧e.at 93=iL eA∧e.at 94=iI (eA.length:Int)∧e.at 95=iI dJ
theorem l184_5(a0:qc)(a2:Int)(x1:L1)(aC:L1)(eA:aJ)(dW:aJ)(dJ:Int)(kS:L1)(u7 lZ:Nat){lo:Int}{s:L1}{t:L1}(hF:forR lo (x1.length:Int) (F184_5_B a0 a2 x1 aC eA dW dJ kS) (F184_5_D a0 a2 x1 aC eA dW dJ kS) s=some t){e:Env}{h:Heap}(hI:I184_5 a0 a2 x1 aC eA dW dJ kS u7 lZ lo s e h):W A c184_5 e h (P184_5 a0 a2 x1 aC eA dW dJ kS u7 lZ t):=by
 show W A (.block 8 (.loop false b184_5)) e h _;rw[qp];refine qF hF 6 (by obtain⟨_,_,rfl,_⟩:=hI; rfl) (I184_5 a0 a2 x1 aC eA dW dJ kS u7 lZ) hI ?_ ?_
 ·rintro iC iP e h ⟨tU,v9,rfl,h_56⟩ hlt hw o ho
  unfold F184_5_B at ho;obtain⟨a7,tj,ho⟩:=bS ho;obtain⟨w61a,w61b⟩:=qm tj;obtain⟨rF,n6,ho⟩:=bS ho;obtain⟨w63a,w63b⟩:=qm n6;obtain⟨x64,ff,ho⟩:=bS ho;obtain⟨w65a,mq⟩:=qm ff;have w65c:=zi ff;have w65d:List.drop (Int.toNat a7) (iP.map enc)=(iI x64)::List.drop ((Int.toNat a7)+1) (iP.map enc):=xh mq;obtain⟨rg,uy,ho⟩:=bS ho;obtain⟨w67a,w67b,w67c,w67d,ak⟩:=xB uy;replace ak:List.take (Int.toNat a7) (iP.map enc)++[iI rF]++List.drop (Int.toNat a7+1) (iP.map enc)=List.map enc rg:=ak;cases ho;simp only[simprocAttr,R0,b184_5, *];refine ai rfl (ei _ (ei _ (ai rfl ?_)));simp only[simprocAttr,R0, *]
 ·rintro iC iP e h ⟨tU,v9,rfl,h_56⟩ hge t1 ho
  unfold F184_5_D at ho;cases ho;simp only[simprocAttr,R0,b184_5, *];intro ht; subst ht;refine ai rfl (ei _ (ei _ (ai rfl ?_)));simp only[simprocAttr,R0, *]
def I184_4(a0:qc)(a2:Int)(x1:L1)(aC:L1)(eA:aJ)(u7:Nat)(dJ:Int)(dW:aJ)(e:Env)(h:Heap):Prop:=
 ∃lZ i8:Nat,h=⟨[(0,none),(1,some [iI a0.C.P,iL a0.C.D,iL a0.C.M]),(0,none),(u7,some (aC.map enc)),(lZ,some (dW.map enc))],i8⟩∧e.length=127∧e.at 2=iI a2∧e.at 9=V.ptr 1 1 0∧e.at 10=iL x1∧e.at 19=V.sl 4 lZ 0 dW.length 1∧e.at 93=iL eA∧e.at 94=iI (eA.length:Int)∧e.at 95=iI dJ
def P184_4(a0:qc)(a2:Int)(x1:L1)(aC:L1)(eA:aJ)(u7:Nat)(eU:aJ)(x:Ex)(e:Env)(h:Heap):Prop:=
 x= .normal∧∃lZ i8:Nat,h=⟨[(0,none),(1,some [iI a0.C.P,iL a0.C.D,iL a0.C.M]),(0,none),(u7,some (aC.map enc)),(lZ,some (eU.map enc))],i8⟩∧e.length=127∧e.at 9=V.ptr 1 1 0∧e.at 19=V.sl 4 lZ 0 eU.length 1
theorem l184_4(a0:qc)(a2:Int)(x1:L1)(aC:L1)(eA:aJ)(u7:Nat){lo:Int}{s:aJ}{t:aJ}(hF:forR lo (eA.length:Int) (F184_4_B a0 a2 x1 aC eA) (F184_4_D a0 a2 x1 aC eA) s=some t){e:Env}{h:Heap}(hI:I184_4 a0 a2 x1 aC eA u7 lo s e h):W A c184_4 e h (P184_4 a0 a2 x1 aC eA u7 t):=by
 show W A (.block 6 (.loop false b184_4)) e h _;rw[qp];refine qF hF 5 (by obtain⟨_,_,rfl,_⟩:=hI; rfl) (I184_4 a0 a2 x1 aC eA u7) hI ?_ ?_
 ·rintro dJ dW e h ⟨lZ,i8,rfl,h_46⟩ hlt hw o ho
  unfold F184_4_B at ho;obtain⟨kS,rW,ho⟩:=bS ho;obtain⟨mu,mr⟩:=qm rW;obtain⟨lu,tp,ho⟩:=bS ho;have w53:=s102 a0.C a2 tp;obtain⟨v8,tF,ho⟩:=bS ho;obtain⟨w55a,w55b,w55c,w55d,am⟩:=mkL_w tF;replace am:(List.replicate (Int.toNat lu) [iI 0]).flatten=List.map enc v8:=am;obtain⟨iW,ue,ho⟩:=bS ho;simp only[simprocAttr, -Int.reduceNatCast',R0,b184_4, *];refine W.mono (l184_5 a0 a2 x1 aC eA dW dJ kS u7 lZ ue (ei _ (ei _ (ai rfl ?_)))) ?_
  ·simp only[simprocAttr, -Int.reduceNatCast',R0, *]
  rintro _ e _ ⟨rfl,tU,v9,rfl,h_59⟩;obtain⟨l70,fq,ho⟩:=bS ho;have w69:=fun a b c d e=> qA (α:=L1) (n:=dW.length) (m:=1) (ds:=[iL iW]) fq (by first|rfl|simp) (by first|rfl|simp) rfl a b c d e;have w69l:=qO fq;cases ho;simp only[simprocAttr, -Int.reduceNatCast',R0,qR (α:=Int) iW, *];refine ai rfl (ei _ (ei _ (ai rfl ?_)));simp only[simprocAttr, -Int.reduceNatCast',R0,qR (α:=Int) iW, *]
 ·rintro dJ dW e h ⟨lZ,i8,rfl,h_46⟩ hge t1 ho
  unfold F184_4_D at ho;cases ho;simp only[simprocAttr, -Int.reduceNatCast',R0,b184_4, *];intro ht; subst ht;refine ai rfl (ei _ (ei _ (ai rfl ?_)));simp only[simprocAttr, -Int.reduceNatCast',R0, *]
theorem s184(a0:qc)(a1:Int)(a2:Int)(a3:Int){r:aJ}(hF:F184 a0 a1 a2 a3=some r):ans A 184 [(eF a0),iI a1,iI a2,iI a3]=some (enc r):=by
 refine qB (f:=p184) rfl rfl rfl fun e hl he=>?_;have aA:=he 0 _ rfl;have aB:=he 1 _ rfl;have aU:=he 2 _ rfl;have cX:=he 3 _ rfl;have hl_0:e.length=127:=hl;clear he hl;show W A b184 e ⟨[],0⟩ _;unfold F184 at hF;obtain⟨x1,bD,hF⟩:=bS hF;have w2:=s202 a0 a2 a3 bD;obtain⟨x3,dN,hF⟩:=bS hF;have mh:=qD dN;obtain⟨x4,fM,hF⟩:=bS hF;have w5:=s102 a0.C x3 fM;obtain⟨aC,sB,hF⟩:=bS hF;simp only[simprocAttr, -Int.reduceNatCast',R0,b184, *];refine W.mono (l184_1 a0 a1 a2 a3 x1 x4 sB (ei _ (ei _ (ai rfl ?_)))) ?_
 ·simp only[simprocAttr, -Int.reduceNatCast',R0, *]
 rintro _ e _ ⟨rfl,u7,k8,rfl,hl_9,sa,ru,fd,fc,fa⟩;obtain⟨bO,sA,hF⟩:=bS hF;simp only[simprocAttr, -Int.reduceNatCast',R0, *];refine W.mono (l184_2 a0 a2 x1 aC u7 sA (ei _ (ei _ (ai rfl ?_)))) ?_
 ·simp only[simprocAttr, -Int.reduceNatCast',R0, *]
 rintro _ e _ ⟨rfl,mA,i9,rfl,hl_22,ey,eh,m9,m8⟩;obtain⟨eA,mR,hF⟩:=bS hF;have w45:=s125 a0.C.P bO mR;obtain⟨eU,o7,hF⟩:=bS hF;simp only[simprocAttr, -Int.reduceNatCast',R0,qR (α:=L1) bO, *];refine W.mono (l184_4 a0 a2 x1 aC eA u7 o7 (ei _ (ei _ (ai rfl ?_)))) ?_
 ·simp only[simprocAttr, -Int.reduceNatCast',R0,qR (α:=L1) bO, *]
 rintro _ e _ ⟨rfl,lZ,i8,rfl,hl_49,eg,m7⟩;obtain⟨rE,n5,hF⟩:=bS hF;have w73:tans A 133 [1] [iI a0.C.P,iL eU]=some (iL rE):=t133 a0.C.P eU n5;have mp:=zm (α:=L1) rE;have hE:=wA hF; subst hE;simp only[simprocAttr, -Int.reduceNatCast',R0,qR (α:=L1) eU, *];exact qh (by simp only[simprocAttr, -Int.reduceNatCast',R0,qg,p184,Rs.ev,qd,qR (α:=L1) eU,frzs (α:=L1) rE,qR (α:=L1) rE, *])
theorem t184(a0:qc)(a1:Int)(a2:Int)(a3:Int){r:aJ}(hF:F184 a0 a1 a2 a3=some r):tans A 184 [1] [(eF a0),iI a1,iI a2,iI a3]=some (enc r):=by
 refine tans_of (f:=p184) rfl rfl rfl fun e hl he=>?_;have aA:=he 0 _ rfl;have aB:=he 1 _ rfl;have aU:=he 2 _ rfl;have cX:=he 3 _ rfl;have hl_0:e.length=127:=hl;clear he hl;show W A b184 e ⟨[],0⟩ _;unfold F184 at hF;obtain⟨x1,bD,hF⟩:=bS hF;have w2:=s202 a0 a2 a3 bD;obtain⟨x3,dN,hF⟩:=bS hF;have mh:=qD dN;obtain⟨x4,fM,hF⟩:=bS hF;have w5:=s102 a0.C x3 fM;obtain⟨aC,sB,hF⟩:=bS hF;simp only[simprocAttr, -Int.reduceNatCast',R0,b184, *];refine W.mono (l184_1 a0 a1 a2 a3 x1 x4 sB (ei _ (ei _ (ai rfl ?_)))) ?_
 ·simp only[simprocAttr, -Int.reduceNatCast',R0, *]
 rintro _ e _ ⟨rfl,u7,k8,rfl,hl_9,sa,ru,fd,fc,fa⟩;obtain⟨bO,sA,hF⟩:=bS hF;simp only[simprocAttr, -Int.reduceNatCast',R0, *];refine W.mono (l184_2 a0 a2 x1 aC u7 sA (ei _ (ei _ (ai rfl ?_)))) ?_
 ·simp only[simprocAttr, -Int.reduceNatCast',R0, *]
 rintro _ e _ ⟨rfl,mA,i9,rfl,hl_22,ey,eh,m9,m8⟩;obtain⟨eA,mR,hF⟩:=bS hF;have w45:=s125 a0.C.P bO mR;obtain⟨eU,o7,hF⟩:=bS hF;simp only[simprocAttr, -Int.reduceNatCast',R0,qR (α:=L1) bO, *];refine W.mono (l184_4 a0 a2 x1 aC eA u7 o7 (ei _ (ei _ (ai rfl ?_)))) ?_
 ·simp only[simprocAttr, -Int.reduceNatCast',R0,qR (α:=L1) bO, *]
 rintro _ e _ ⟨rfl,lZ,i8,rfl,hl_49,eg,m7⟩;obtain⟨rE,n5,hF⟩:=bS hF;have w73:tans A 133 [1] [iI a0.C.P,iL eU]=some (iL rE):=t133 a0.C.P eU n5;have mp:=zm (α:=L1) rE;have hE:=wA hF; subst hE;simp only[simprocAttr, -Int.reduceNatCast',R0,qR (α:=L1) eU, *];exact tfin_ret (by simp only[simprocAttr, -Int.reduceNatCast',R0,qg,p184,Rs.ev,qd,qR (α:=L1) eU,frzs (α:=L1) rE,qR (α:=L1) rE, *])
end
end Rv
