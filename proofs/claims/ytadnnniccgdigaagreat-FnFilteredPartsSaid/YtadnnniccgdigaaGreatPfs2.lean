/- What the abstract code answers: typed functions, part 3. -/
import Derived.Test.YtadnnniccgdigaaGreatPfs1
namespace Rv
open Enc (enc)
set_option linter.unusedVariables false
set_option linter.unusedSimpArgs false
set_option maxRecDepth 100000
noncomputable section
def F453_3_S(a1:qe)(x1:T2 Int qo)(aH:aJ)(aY:Int)(aX:L1)(aW:L3)(aE:Int)(x7:aJ)(cM:List U8)(cL:Int)(cK:Int)(eZ:L1)(aV:Int)(s:Int×Int):Option ((Int×Int)⊕(Int)):=
 match s with
 |(kP,iJ)=>
  if 0 < aE then
   (chk (aE - 1)).bind fun fF=>
   (getI a1.D fF).bind fun gY=>
   if iJ < gY then
    (getI x7 aV).bind fun x24=>
    (getI x24 iJ).bind fun fZ=>
    if fZ=0 then
     (chk (iJ+1)).bind fun eB=>
     some (.inl (kP,eB))
    else
     (getI aH fF).bind fun dZ=>
     (getI dZ iJ).bind fun eH=>
     (chk (iJ+1)).bind fun iF=>
     some (.inl ((if eH > kP then eH else kP),iF))
   else
    some (.inr kP)
  else
   some (.inr kP)
def kH(a1:qe)(x1:T2 Int qo)(aH:aJ)(aY:Int)(aX:L1)(aW:L3)(aE:Int)(x7:aJ)(s:(List U8)×Int×Int×L1×Int):Option (((List U8)×Int×Int×L1×Int)⊕((List U8)×Int×Int×L1)):=
 match s with
 |(cM,cL,cK,eZ,aV)=>
  (getI a1.D aE).bind fun eI=>
  if aV < eI then
   (qY (F453_3_S a1 x1 aH aY aX aW aE x7 cM cL cK eZ aV) (0,0)).bind fun mF=>
   (chk (x1.a+1)).bind fun fN=>
   (F416 ⟨cM,cL,cK⟩ fN).bind fun pX=>
   (chk (mF+pX.a)).bind fun pW=>
   (app 8 eZ [(if 5 < pW then 5 else pW)]).bind fun l41=>
   (chk (aV+1)).bind fun nS=>
   some (.inl (pX.b.code,pX.b.at_,pX.b.hash,l41,nS))
  else
   some (.inr (cM,cL,cK,eZ))
def F453_1_B(a1:qe)(x1:T2 Int qo)(aE:Int)(s:(List U8)×Int×Int×aJ×Int×L1×L3):Option (((List U8)×Int×Int×aJ×Int×L1×L3)⊕((List U8)×Int×Int×aJ×Int×L1×L3)):=
 match s with
 |(bH,bG,bF,aH,aY,aX,aW)=>
  (F76 a1 aE).bind fun x7=>
  (qY (kH a1 x1 aH aY aX aW aE x7) (bH,bG,bF,[],0)).bind fun t43=> match t43 with
   |(lF,lE,lD,iX)=>
    (app 24 aH [iX]).bind fun l45=>
    some (.inl (lF,lE,lD,l45,aY,aX,aW))
def F453_1_D(a1:qe)(x1:T2 Int qo)(aE:Int)(s:(List U8)×Int×Int×aJ×Int×L1×L3):Option ((List U8)×Int×Int×aJ×Int×L1×L3):=
 match s with
 |(bH,bG,bF,aH,aY,aX,aW)=>
  some (bH,bG,bF,aH,aY,aX,aW)
def F453(src:qo)(a1:qe):Option (T2 qc qo):=
 (F412 src [0,1,2,2,3,5]).bind fun x1=>
 (forR 0 (a1.D.length:Int) (F453_1_B a1 x1) (F453_1_D a1 x1) (x1.b.code,x1.b.at_,x1.b.hash,[],a1.P,a1.D,a1.M)).bind fun sX=> match sX with
  |(cC,cB,cA,aC,lB,lA,kZ)=>
   some ⟨⟨⟨lB,lA,kZ⟩,aC⟩,⟨cC,cB,cA⟩⟩
def I453_3(a1:qe)(x1:T2 Int qo)(aH:aJ)(aY:Int)(aX:L1)(aW:L3)(aE:Int)(x7:aJ)(cM:List U8)(cL:Int)(cK:Int)(eZ:L1)(aV:Int)(u4 mX:Nat)(s:Int×Int)(e:Env)(h:Heap):Prop:=
 match s with
 |(kP,iJ)=>
  ∃dp:Nat,h=⟨[(0,some [iL cM,iI cL,V.int .u64 cK]),(0,none),(2,some [iI 0,V.nils,V.nils,V.nils]),(u4,some (aH.map enc)),(4,some [iI aY,iL aX,iL aW,V.sl 3 u4 0 aH.length 1]),(mX,some (eZ.map enc))],dp⟩∧e.length=89∧e.at 0=V.ptr 0 0 0∧e.at 3=eP a1∧e.at 4=V.ptr 2 2 0∧e.at 5=V.ptr 4 4 0∧e.at 6=iI x1.a∧e.at 7=iI aE∧e.at 8=V.sl 5 mX 0 eZ.length 1∧e.at 9=iL x7∧e.at 10=iI aV∧e.at 11=iI kP∧e.at 12=iI iJ
def P453_3(a1:qe)(x1:T2 Int qo)(aH:aJ)(aY:Int)(aX:L1)(aW:L3)(aE:Int)(x7:aJ)(cM:List U8)(cL:Int)(cK:Int)(eZ:L1)(aV:Int)(u4 mX:Nat)(mF:Int)(x:Ex)(e:Env)(h:Heap):Prop:=
 x= .normal∧∃dp:Nat,h=⟨[(0,some [iL cM,iI cL,V.int .u64 cK]),(0,none),(2,some [iI 0,V.nils,V.nils,V.nils]),(u4,some (aH.map enc)),(4,some [iI aY,iL aX,iL aW,V.sl 3 u4 0 aH.length 1]),(mX,some (eZ.map enc))],dp⟩∧e.length=89∧e.at 0=V.ptr 0 0 0∧e.at 3=eP a1∧e.at 4=V.ptr 2 2 0∧e.at 5=V.ptr 4 4 0∧e.at 6=iI x1.a∧e.at 7=iI aE∧e.at 8=V.sl 5 mX 0 eZ.length 1∧e.at 9=iL x7∧e.at 10=iI aV∧e.at 11=iI mF
theorem l453_3(a1:qe)(x1:T2 Int qo)(aH:aJ)(aY:Int)(aX:L1)(aW:L3)(aE:Int)(x7:aJ)(cM:List U8)(cL:Int)(cK:Int)(eZ:L1)(aV:Int)(u4 mX:Nat){s:Int×Int}{t:Int}(hF:qY (F453_3_S a1 x1 aH aY aX aW aE x7 cM cL cK eZ aV) s=some t){e:Env}{h:Heap}(hI:I453_3 a1 x1 aH aY aX aW aE x7 cM cL cK eZ aV u4 mX s e h):W A c453_3 e h (P453_3 a1 x1 aH aY aX aW aE x7 cM cL cK eZ aV u4 mX t):=by
 show W A (.block 4 (.loop false b453_3)) e h _;rw[qp];refine zW hF 6 (by rcases s with⟨_,_⟩; obtain⟨_,rfl,_⟩:=hI; rfl) (I453_3 a1 x1 aH aY aX aW aE x7 cM cL cK eZ aV u4 mX) hI ?_
 ·rintro⟨kP,iJ⟩ e h ⟨dp,rfl,h_16⟩ o ho
  unfold F453_3_S at ho;dsimp only at ho;by_cases ij:0 < aE
  ·rw[if_pos ij]at ho
   obtain⟨fF,fS,ho⟩:=bS ho;have sN:=qD fS;obtain⟨gY,iR,ho⟩:=bS ho;obtain⟨nu,nt⟩:=qm iR;by_cases uY:iJ < gY
   ·rw[if_pos uY]at ho
    obtain⟨x24,lP,ho⟩:=bS ho;obtain⟨bh,bg⟩:=qm lP;obtain⟨fZ,mU,ho⟩:=bS ho;obtain⟨be,az⟩:=qm mU;by_cases sF:fZ=0
    ·rw[if_pos sF]at ho
     obtain⟨eB,lS,ho⟩:=bS ho;have d6:=qD lS;cases ho;simp only[simprocAttr,R0,b453_3, *];refine ai rfl (ei _ (ai rfl ?_));simp only[simprocAttr,R0, *]
    ·rw[if_neg sF]at ho
     obtain⟨dZ,nL,ho⟩:=bS ho;obtain⟨w31a,ni⟩:=qm nL;have w31c:=zi nL;have w31d:List.drop (Int.toNat fF) (aH.map enc)=(iL dZ)::List.drop ((Int.toNat fF)+1) (aH.map enc):=xh ni;obtain⟨eH,mT,ho⟩:=bS ho;obtain⟨ng,nf⟩:=qm mT;obtain⟨iF,oO,ho⟩:=bS ho;have wx34:=qD oO;cases ho;simp only[simprocAttr,R0,b453_3, *];refine ai rfl (ei _ (ai rfl ?_));simp only[simprocAttr,R0, *]
   ·rw[if_neg uY]at ho
    cases ho;simp only[simprocAttr,R0,b453_3, *];intro ht; subst ht;simp only[simprocAttr,RR,RB];refine ai rfl (ei _ (ai rfl ?_));simp only[simprocAttr,R0, *]
  ·rw[if_neg ij]at ho
   cases ho;simp only[simprocAttr,R0,b453_3, *];intro ht; subst ht;simp only[simprocAttr,RR,RB];refine ai rfl (ei _ (ai rfl ?_));simp only[simprocAttr,R0, *]
def I453_2(a1:qe)(x1:T2 Int qo)(aH:aJ)(aY:Int)(aX:L1)(aW:L3)(aE:Int)(x7:aJ)(u4:Nat)(s:(List U8)×Int×Int×L1×Int)(e:Env)(h:Heap):Prop:=
 match s with
 |(cM,cL,cK,eZ,aV)=>
  ∃mX j4:Nat,h=⟨[(0,some [iL cM,iI cL,V.int .u64 cK]),(0,none),(2,some [iI 0,V.nils,V.nils,V.nils]),(u4,some (aH.map enc)),(4,some [iI aY,iL aX,iL aW,V.sl 3 u4 0 aH.length 1]),(mX,some (eZ.map enc))],j4⟩∧e.length=89∧e.at 0=V.ptr 0 0 0∧e.at 3=eP a1∧e.at 4=V.ptr 2 2 0∧e.at 5=V.ptr 4 4 0∧e.at 6=iI x1.a∧e.at 7=iI aE∧e.at 8=V.sl 5 mX 0 eZ.length 1∧e.at 9=iL x7∧e.at 10=iI aV
def P453_2(a1:qe)(x1:T2 Int qo)(aH:aJ)(aY:Int)(aX:L1)(aW:L3)(aE:Int)(x7:aJ)(u4:Nat)(t:(List U8)×Int×Int×L1)(x:Ex)(e:Env)(h:Heap):Prop:=
 match t with
 |(lF,lE,lD,iX)=>
  x= .normal∧∃mX j4:Nat,h=⟨[(0,some [iL lF,iI lE,V.int .u64 lD]),(0,none),(2,some [iI 0,V.nils,V.nils,V.nils]),(u4,some (aH.map enc)),(4,some [iI aY,iL aX,iL aW,V.sl 3 u4 0 aH.length 1]),(mX,some (iX.map enc))],j4⟩∧e.length=89∧e.at 0=V.ptr 0 0 0∧e.at 3=eP a1∧e.at 4=V.ptr 2 2 0∧e.at 5=V.ptr 4 4 0∧e.at 6=iI x1.a∧e.at 7=iI aE∧e.at 8=V.sl 5 mX 0 iX.length 1
theorem l453_2(a1:qe)(x1:T2 Int qo)(aH:aJ)(aY:Int)(aX:L1)(aW:L3)(aE:Int)(x7:aJ)(u4:Nat){s:(List U8)×Int×Int×L1×Int}{t:(List U8)×Int×Int×L1}(hF:qY (kH a1 x1 aH aY aX aW aE x7) s=some t){e:Env}{h:Heap}(hI:I453_2 a1 x1 aH aY aX aW aE x7 u4 s e h):W A c453_2 e h (P453_2 a1 x1 aH aY aX aW aE x7 u4 t):=by
 show W A (.block 2 (.loop false b453_2)) e h _;rw[qp];refine zW hF 6 (by rcases s with⟨_,_,_,_,_⟩; obtain⟨_,_,rfl,_⟩:=hI; rfl) (I453_2 a1 x1 aH aY aX aW aE x7 u4) hI ?_
 ·rintro⟨cM,cL,cK,eZ,aV⟩ e h ⟨mX,j4,rfl,h_9⟩ o ho
  unfold kH at ho;dsimp only at ho;obtain⟨eI,fJ,ho⟩:=bS ho;obtain⟨ot,oq⟩:=qm fJ;by_cases il:aV < eI
  ·rw[if_pos il]at ho
   obtain⟨mF,ul,ho⟩:=bS ho;simp only[simprocAttr,R0,b453_2, *];refine W.mono (l453_3 a1 x1 aH aY aX aW aE x7 cM cL cK eZ aV u4 mX ul (ei _ (ai rfl ?_))) ?_
   ·simp only[simprocAttr,R0, *]
   rintro _ e _ ⟨rfl,dp,rfl,h_18⟩;obtain⟨fN,oK,ho⟩:=bS ho;have wx36:=qD oK;obtain⟨pX,o6,ho⟩:=bS ho;have w38:xans A 416 [iL cM,iI cL,V.int .u64 cK] [iI fN]=some (iI pX.a,(eS pX.b)):=s416 ⟨cM,cL,cK⟩ fN o6;obtain⟨pW,rY,ho⟩:=bS ho;have wx39:=qD rY;obtain⟨l41,gf,ho⟩:=bS ho;have w40:=fun a b c d e=> qA (α:=Int) (n:=eZ.length) (m:=1) (ds:=[iI (if 5 < pW then 5 else pW)]) gf (by first|rfl|simp) (by first|rfl|simp) rfl a b c d e;have w40l:=qO gf;obtain⟨nS,mS,ho⟩:=bS ho;have wx42:=qD mS;cases ho;simp only[simprocAttr,R0,qj, *];refine ai rfl (ei _ (ei _ (ai rfl ?_)));simp only[simprocAttr,R0,qj, *]
  ·rw[if_neg il]at ho
   cases ho;simp only[simprocAttr,R0,b453_2, *];intro ht; subst ht;simp only[simprocAttr,RR,RB];refine ai rfl (ei _ (ei _ (ai rfl ?_)));simp only[simprocAttr,R0, *]
def I453_1(a1:qe)(x1:T2 Int qo)(aE:Int)(s:(List U8)×Int×Int×aJ×Int×L1×L3)(e:Env)(h:Heap):Prop:=
 match s with
 |(bH,bG,bF,aH,aY,aX,aW)=>
  ∃u4 k5:Nat,h=⟨[(0,some [iL bH,iI bG,V.int .u64 bF]),(0,none),(2,some [iI 0,V.nils,V.nils,V.nils]),(u4,some (aH.map enc)),(4,some [iI aY,iL aX,iL aW,V.sl 3 u4 0 aH.length 1])],k5⟩∧e.length=89∧e.at 0=V.ptr 0 0 0∧e.at 3=eP a1∧e.at 4=V.ptr 2 2 0∧e.at 5=V.ptr 4 4 0∧e.at 6=iI x1.a∧e.at 7=iI aE
def P453_1(a1:qe)(x1:T2 Int qo)(t:(List U8)×Int×Int×aJ×Int×L1×L3)(x:Ex)(e:Env)(h:Heap):Prop:=
 match t with
 |(cC,cB,cA,aC,lB,lA,kZ)=>
  x= .normal∧∃u4 k5:Nat,h=⟨[(0,some [iL cC,iI cB,V.int .u64 cA]),(0,none),(2,some [iI 0,V.nils,V.nils,V.nils]),(u4,some (aC.map enc)),(4,some [iI lB,iL lA,iL kZ,V.sl 3 u4 0 aC.length 1])],k5⟩∧e.length=89∧e.at 4=V.ptr 2 2 0∧e.at 5=V.ptr 4 4 0
theorem l453_1(a1:qe)(x1:T2 Int qo){lo:Int}{s:(List U8)×Int×Int×aJ×Int×L1×L3}{t:(List U8)×Int×Int×aJ×Int×L1×L3}(hF:forR lo (a1.D.length:Int) (F453_1_B a1 x1) (F453_1_D a1 x1) s=some t){e:Env}{h:Heap}(hI:I453_1 a1 x1 lo s e h):W A c453_1 e h (P453_1 a1 x1 t):=by
 show W A (.block 0 (.loop false b453_1)) e h _;rw[qp];refine qF hF 5 (by rcases s with⟨_,_,_,_,_,_,_⟩; obtain⟨_,_,rfl,_⟩:=hI; rfl) (I453_1 a1 x1) hI ?_ ?_
 ·rintro aE ⟨bH,bG,bF,aH,aY,aX,aW⟩ e h ⟨u4,k5,rfl,h_3⟩ hlt hw o ho
  unfold F453_1_B at ho;dsimp only at ho;obtain⟨x7,dQ,ho⟩:=bS ho;have w8:ans A 76 [(eC a1),iI aE]=some (iL x7):=s76 a1 aE dQ;obtain⟨⟨lF,lE,lD,iX⟩,sA,ho⟩:=bS ho;dsimp only at ho;simp only[simprocAttr,R0,b453_1,h_3,eq_true hlt,hw,w8];refine W.mono (l453_2 a1 x1 aH aY aX aW aE x7 u4 sA (ei _ (ei _ (ai rfl ?_)))) ?_
  ·simp only[simprocAttr,R0,h_3,eq_true hlt,hw,w8]
  rintro _ e _ ⟨rfl,mX,j4,rfl,h_12⟩;obtain⟨l45,fx,ho⟩:=bS ho;have w44:=fun a b c d e=> qA (α:=L1) (n:=aH.length) (m:=1) (ds:=[iL iX]) fx (by first|rfl|simp) (by first|rfl|simp) rfl a b c d e;have w44l:=qO fx;cases ho;simp only[simprocAttr,R0,h_12,eq_true hlt,hw,qR (α:=Int) iX,w44];refine ai rfl (ei _ (ei _ (ai rfl ?_)));simp only[simprocAttr,R0,h_12,eq_true hlt,hw,qR (α:=Int) iX,w44]
 ·rintro aE ⟨bH,bG,bF,aH,aY,aX,aW⟩ e h ⟨u4,k5,rfl,h_3⟩ hge t1 ho
  unfold F453_1_D at ho;dsimp only at ho;cases ho;simp only[simprocAttr,R0,b453_1,h_3,eq_false hge];intro ht; subst ht;refine ai rfl (ei _ (ei _ (ai rfl ?_)));simp only[simprocAttr,R0,h_3,eq_false hge]
theorem s453(src:qo)(a1:qe){r:T2 qc qo}(hF:F453 src a1=some r):xans A 453 (eS src) [(eC a1)]=some (eF r.a,(eS r.b)):=by
 refine jX (f:=p453) rfl rfl rfl fun e hl h0 he=>?_;have aA:e.at 0=V.ptr 0 0 0:=h0;have aB:e.at 1=(eC a1):=he 0 _ rfl;have hl_0:e.length=89:=hl;clear h0 he hl;show W A b453 e ⟨[(0,some (eS src))],1⟩ _;unfold F453 at hF;obtain⟨x1,bD,hF⟩:=bS hF;have w2:xans A 412 (eS src) [V.isl [iI 0,iI 1,iI 2,iI 2,iI 3,iI 5]]=some (iI x1.a,(eS x1.b)):=s412 src [0,1,2,2,3,5] bD;obtain⟨⟨cC,cB,cA,aC,lB,lA,kZ⟩,oX,hF⟩:=bS hF;dsimp only at hF;simp only[simprocAttr,R0,b453,qj, *];refine W.mono (l453_1 a1 x1 oX (ei _ (ei _ (ai rfl ?_)))) ?_
 ·simp only[simprocAttr,R0,qj, *]
 rintro _ e _ ⟨rfl,u4,k5,rfl,h_6⟩;cases hF;simp only[simprocAttr,R0, *];exact ze (by simp only[simprocAttr,R0,qg,p453,Rs.ev,qd,frzs (α:=L1) aC,qR (α:=L1) aC, *])
def F452(src:qo):Option (T2 qc qo):=
 (F415 src).bind fun x1=>
 (F453 x1.b x1.a).bind fun x3=>
 some ⟨x3.a,x3.b⟩
theorem s452(src:qo){r:T2 qc qo}(hF:F452 src=some r):xans A 452 (eS src) []=some (eF r.a,(eS r.b)):=by
 refine jX (f:=p452) rfl rfl rfl fun e hl h0 he=>?_;have aA:e.at 0=V.ptr 0 0 0:=h0;have hl_0:e.length=7:=hl;clear h0 he hl;show W A b452 e ⟨[(0,some (eS src))],1⟩ _;unfold F452 at hF;obtain⟨x1,bD,hF⟩:=bS hF;have w2:xans A 415 (eS src) []=some ((eC x1.a),(eS x1.b)):=s415 src bD;obtain⟨x3,dN,hF⟩:=bS hF;have w4:xans A 453 (eS x1.b) [(eC x1.a)]=some (eF x3.a,(eS x3.b)):=s453 x1.b x1.a dN;cases hF;simp only[simprocAttr,R0,b452,qj,qj, *];exact ze (by simp only[simprocAttr,R0,qg,p452,Rs.ev,qd,qj,qj, *])
def F450_1_B(lv:aJ)(i:Int)(l:aJ):Option (aJ⊕aJ):=(getI lv i).bind fun a=>(F94 a).bind fun b=>(app 24 l [b]).bind fun l2=> some (.inl l2)
def F450_1_D(i:Int)(l:aJ):Option aJ:=some l
def F450(src:qo):Option (T2 qc qo):=(F452 src).bind fun x=>(forR 0 (x.a.L.length:Int) (F450_1_B x.a.L) F450_1_D []).bind fun lv=>(F416 x.b (lv.length:Int)).bind fun n=>(F416 n.b 40).bind fun k=>
 if k.a=0 then(getI lv n.a).bind fun row=>(app 8 row [0]).bind fun row'=>(setI lv n.a row').bind fun lv'=> some ⟨⟨x.a.C,lv'⟩,k.b⟩
 else if k.a=1 then(getI lv n.a).bind fun row=> if 0 < (row.length:Int)then(F416 k.b (row.length:Int)).bind fun j=>(F412 j.b [(-1),6,0]).bind fun v=>(setI row j.a v.a).bind fun row'=>(setI lv n.a row').bind fun lv'=> some ⟨⟨x.a.C,lv'⟩,v.b⟩else some ⟨⟨x.a.C,lv⟩,k.b⟩
 else if k.a=2 then if 1≤lv.length then some ⟨⟨x.a.C,lv.drop 1⟩,k.b⟩else none
 else if k.a=3 then(F421 k.b x.a.C).bind fun y=> some ⟨⟨y.a,lv⟩,y.b⟩
 else some ⟨⟨x.a.C,lv⟩,k.b⟩
theorem d1fz{h:Heap}{k u:Nat}{vs:List V}{l:aJ}{K:Ks}(g:h.ents[k]? =some (u,some vs))(r:reps h vs l K)(hl:1≤l.length)(f:Nat):frz h (f+6) (.sl k u 1 (l.length - 1) 1)=some (.isl ((l.drop 1).map enc)):=by
 cases vs with
 |nil=> cases l with
  |nil=> simp at hl
  |cons a l=> exact r.elim
 |cons v vs=> cases l with
  |nil=> exact r.elim
  |cons a l=>
   obtain⟨K1,K2,h1,h2,h3,h4⟩:=r;have hn:=h2.len;simp only[frz,get_of g,yE,vJ,vC,List.drop_succ_cons,vO];rw[if_pos ⟨by omega,by omega⟩,wR (by omega),show mapO (frz h (f+5)) vs=_ from h2.fz f];simp only[xv]
set_option maxHeartbeats 8000000 in
theorem s450(src:qo){r:T2 qc qo}(hF:F450 src=some r):xans A 450 (eS src) []=some (eF r.a,(eS r.b)):=by
 refine jX (f:=p450) rfl rfl rfl fun e hl h0 he=>?_;have aA:e.at 0=V.ptr 0 0 0:=h0;have hl_0:e.length=76:=hl;clear h0 he hl;show W A b450 e ⟨[(0,some (eS src))],1⟩ _;unfold F450 at hF;obtain⟨x,gx,hF⟩:=bS hF;have wx:xans A 452 (eS src) []=some (eF x.a,(eS x.b)):=s452 src gx;obtain⟨lv,glv,hF⟩:=bS hF;obtain⟨n,gn,hF⟩:=bS hF;have wn:xans A 416 (eS x.b) [iI (lv.length:Int)]=some (iI n.a,(eS n.b)):=s416 x.b (lv.length:Int) gn;obtain⟨k,gk,hF⟩:=bS hF;have wk:xans A 416 (eS n.b) [iI 40]=some (iI k.a,(eS k.b)):=s416 n.b 40 gk;simp only[simprocAttr, -Int.reduceNatCast',R0,b450,hl_0,aA,qj,wx];refine W.mono (Q:=fun x' e h=> x'= .normal∧h.ents[0]? =some (0,some (eS x.b))∧h.ents[1]? =some (1,some [iI 0,V.nils,V.nils,V.nils])∧h.ents[2]? =some (2,some [iI x.a.C.P,iL x.a.C.D,iL x.a.C.M,iL x.a.L])∧(∃u vs K,h.ents[3]? =some (u,some vs)∧reps h vs lv K∧(∀k,K k→4≤k)∧e.at 4=V.sl 3 u 0 lv.length 1)∧e.length=76∧e.at 0=V.ptr 0 0 0∧e.at 2=V.ptr 1 1 0∧e.at 3=V.ptr 2 2 0) ?_ ?_
 rotate_left
 ·rintro _ e ⟨E,c⟩ ⟨rfl,g0,g1,g2,⟨u,vs,K,g3,g4,g5,aQ⟩,hl_1,aG,cF,bM⟩
  simp only at g0 g1 g2 g3;have hE3:3 < E.length:=gA g3;have hln:=g4.len;have hbd:∀k,K k→k < E.length:=fun k q=> g4.bd q;have tE:∀z:nO,(E.set 0 z)[0]? =some z:=fun z=> ql (by omega);have n1:∀ (z y:nO),((E.set 0 z).set 0 y)[1]? =_:=fun z y=>(qi (by omega)).trans ((qi (by omega)).trans g1);have n2:∀ (z y:nO),((E.set 0 z).set 0 y)[2]? =_:=fun z y=>(qi (by omega)).trans ((qi (by omega)).trans g2);have n3:∀ (z y:nO),((E.set 0 z).set 0 y)[3]? =_:=fun z y=>(qi (by omega)).trans ((qi (by omega)).trans g3);have cr:∀ (E2:List (nO)) c2,E2[3]? =some (u,some vs)→(∀k,K k→E2[k]? =E[k]?)→∀f,frz ⟨E2,c2⟩ (f+6) (V.sl 3 u 0 lv.length 1)=some (iL lv):=fun E2 c2 q1 q2 f=> Deep.fz (α:=aJ) (rep_at q1 (g4.frame q2) fun q=> by have:=g5 _ q; omega) f;have pj:∀ (a b y:nO),(((E.set 0 a).set 0 b).set 2 y)[2]? =some y:=fun a b y=> ql (by simp; omega);have t1:∀ (a b y:nO),(((E.set 0 a).set 0 b).set 2 y)[1]? =_:=fun a b y=>(qi (by omega)).trans (n1 a b);have po:∀ (a b y t:nO),((((E.set 0 a).set 0 b).set 2 y).set 1 t)[1]? =some t:=fun a b y t=> ql (by simp; omega);have t0:∀ (a b y t:nO),((((E.set 0 a).set 0 b).set 2 y).set 1 t)[0]? =some b:=fun a b y t=>(qi (by omega)).trans ((qi (by omega)).trans (ql (by simp; omega)));have tz:∀ (a b y t r:nO) c2,frz ⟨((((E.set 0 a).set 0 b).set 2 y).set 1 t).set 0 r,c2⟩ 15 (V.sl 3 u 0 lv.length 1)=_:=fun a b y t r c2=> cr _ c2 ((qi (by omega)).trans ((qi (by omega)).trans ((qi (by omega)).trans ((qi (by omega)).trans ((qi (by omega)).trans g3))))) (fun k q=> by have:=g5 k q; exact(qi (by omega)).trans ((qi (by omega)).trans ((qi (by omega)).trans ((qi (by omega)).trans (qi (by omega)))))) 9;by_cases c0:k.a=0
  ·rw[if_pos c0]at hF
   obtain⟨row,gr,hF⟩:=bS hF;obtain⟨ra,rb⟩:=qm gr;have rc:=zi gr;obtain⟨row',ga,hF⟩:=bS hF;obtain⟨lv',gs,hF⟩:=bS hF;have st:=xL gs;have hE:=wA hF; subst hE;obtain⟨hn,he⟩:=gK.1 rb;subst he;obtain⟨w,K1,K2,f1,f2,f3,f4,f5⟩:=g4.focus hn;have hn2:n.a.toNat+1≤vs.length:=by rw[hln]; omega
   have o1:zk none (vs.drop n.a.toNat)=some w:=qC f1;have ap:∀ (z y t:nO) c2,∃v' E' c',∃K':Ks,qS 1 8 w 1 [iI 0] ⟨((E.set 0 z).set 0 y)++[t],c2⟩=some (v',⟨E',c'⟩)∧Deep.rep ⟨E',c'⟩ v' row' K'∧(∀k,K' k→K1 k∨False∨E.length+1≤k)∧(∀k,k < E.length+1→¬K1 k→E'[k]? =(((E.set 0 z).set 0 y)++[t])[k]?)∧E.length+1≤E'.length:=fun z y t c2=> by
    have q:=xl (α:=Int) (E:=((E.set 0 z).set 0 y)++[t]) (c:=c2) (b:=8) (v:=w) (x:=iI 0) (l:=lv[n.a.toNat]) (l2:=row') (a:=0) (K:=K1) (K1:=fun _=> False)
     (Deep.frame f2 fun k q=> by have h1:=g5 k ((f4 k).2 (.inl q)); have h2:=hbd k ((f4 k).2 (.inl q)); exact(gB (by simpa using h2)).trans ((qi (by omega)).trans (qi (by omega)))) ⟨rfl,fun _ x=> x⟩ (fun _ _ x=> x) ga
    simpa using q
   obtain⟨v',E',c',K',a1,a2,a3,a4,a5⟩:=ap (0,some (eS n.b)) (0,some (eS k.b)) (c,some [iI 0]) (c+1);have fW:¬K1 3:=fun q=> by have:=g5 3 ((f4 3).2 (.inl q)); omega
   have uS:¬K1 2:=fun q=> by have:=g5 2 ((f4 2).2 (.inl q)); omega
   have j4:¬K1 1:=fun q=> by have:=g5 1 ((f4 1).2 (.inl q)); omega
   have j5:¬K1 0:=fun q=> by have:=g5 0 ((f4 0).2 (.inl q)); omega
   have al:∀k,k < E.length→4≤k→¬K1 k→E'[k]? =E[k]?:=fun k h1 h2 h3=>(a4 k (by omega) h3).trans ((gB (by simpa using h1)).trans ((qi (by omega)).trans (qi (by omega))));have e3:E'[3]? =some (u,some vs):=(a4 3 (by omega) fW).trans ((gB (by simp; omega)).trans ((qi (by omega)).trans ((qi (by omega)).trans g3)));have e2:E'[2]? =_:=(a4 2 (by omega) uS).trans ((gB (by simp; omega)).trans ((qi (by omega)).trans ((qi (by omega)).trans g2)));have e1:E'[1]? =_:=(a4 1 (by omega) j4).trans ((gB (by simp; omega)).trans ((qi (by omega)).trans ((qi (by omega)).trans g1)));have e0:E'[0]? =_:=(a4 0 (by omega) j5).trans ((gB (by simp; omega)).trans (ql (by simp; omega)));have ro1:v'.cells=[v']:=(rep_one (α:=Int) a2).1;have ro2:v'.tupless=true:=(rep_one (α:=Int) a2).2;have vset:vs.take n.a.toNat++[v']++vs.drop (n.a.toNat+1)=vs.set n.a.toNat v':=by rw[List.set_eq_take_append_cons_drop,if_pos (by omega)]; simp
   have s2:∀z:nO,(E'.set 3 z)[2]? =_:=fun z=>(qi (by omega)).trans e2;have s2k:∀z y:nO,((E'.set 3 z).set 2 y)[2]? =some y:=fun z y=> ql (by simp; omega);have s1:∀z y:nO,((E'.set 3 z).set 2 y)[1]? =_:=fun z y=>(qi (by omega)).trans ((qi (by omega)).trans e1);have s1k:∀z y t:nO,(((E'.set 3 z).set 2 y).set 1 t)[1]? =some t:=fun z y t=> ql (by simp; omega);have s0:∀z y t:nO,(((E'.set 3 z).set 2 y).set 1 t)[0]? =_:=fun z y t=>(qi (by omega)).trans ((qi (by omega)).trans ((qi (by omega)).trans e0));have fz:∀ (y t r:nO) c2,frz ⟨(((E'.set 3 (u,some (vs.set n.a.toNat v'))).set 2 y).set 1 t).set 0 r,c2⟩ 15 (V.sl 3 u 0 lv.length 1)=some (V.isl (List.map enc lv')):=fun y t r c2=> by
    have hl':lv.length=lv'.length:=by rw[st]; simp
    rw[hl'];refine Deep.fz (α:=aJ) (rep_at (K:=fun k=> K' k∨K2 k) ((qi (by omega)).trans ((qi (by omega)).trans ((qi (by omega)).trans (ql (by omega))))) ?_ fun q=>?_) 9
    ·rw[st]
     refine f5 _ v' row' K' _ (Deep.frame a2 fun k q=>?_) (fun k q=>?_) (fun k p q=>?_) (fun k=> vY)
     ·have:=a3 k q
      have h4:4≤k:=this.elim (fun q=> g5 k ((f4 k).2 (.inl q))) fun q=> q.elim (fun x=> x.elim) fun x=> by omega
      exact(qi (by omega)).trans ((qi (by omega)).trans ((qi (by omega)).trans (qi (by omega))))
     ·have h4:=g5 k ((f4 k).2 (.inr q))
      exact(qi (by omega)).trans ((qi (by omega)).trans ((qi (by omega)).trans ((qi (by omega)).trans (al k (hbd k ((f4 k).2 (.inr q))) h4 fun p=> f3 k p q))))
     ·rcases a3 k p with p|p|p
      ·exact f3 k p q
      ·exact p
      ·have:=hbd k ((f4 k).2 (.inr q)); omega
    ·rcases q with q|q
     ·rcases a3 3 q with p|p|p
      ·exact fW p
      ·exact p
      ·omega
     ·have:=g5 3 ((f4 3).2 (.inr q)); omega
   simp only[simprocAttr, -Int.reduceNatCast',R0,hl_1,aG,cF,bM,aQ,qj,tE,g0,wn,wk,eq_true c0,n3,qw,ra,rc,o1,a1,e3,hln,eq_true ra,eq_true rc,eq_true hn,eq_true (show n.a.toNat+1≤lv.length by omega),ro1,ro2,vJ,vG,vset,s2,s2k,s1];exact ze (by simp only[simprocAttr, -Int.reduceNatCast',R0,qg,p450,Rs.ev,hl_1,aG,cF,bM,aQ,s1k,s0,fz])
  rw[if_neg c0]at hF;by_cases c1:k.a=1
  ·rw[if_pos c1]at hF
   obtain⟨row,gr,hF⟩:=bS hF;obtain⟨ra,rb⟩:=qm gr;have rc:=zi gr;obtain⟨hn,he⟩:=gK.1 rb;subst he;obtain⟨w,K1,K2,f1,f2,f3,f4,f5⟩:=g4.focus hn;have o1:zk none (vs.drop n.a.toNat)=some w:=qC f1;have hlr:=rep_len f2;by_cases q3:0 < (lv[n.a.toNat].length:Int)
   ·rw[if_pos q3]at hF
    obtain⟨j,gj,hF⟩:=bS hF;have wj:xans A 416 (eS k.b) [iI (lv[n.a.toNat].length:Int)]=some (iI j.a,(eS j.b)):=s416 k.b _ gj;obtain⟨v,gv,hF⟩:=bS hF;have wv:xans A 412 (eS j.b) [V.isl [iI (-1),iI 6,iI 0]]=some (iI v.a,(eS v.b)):=s412 j.b [(-1),6,0] gv;obtain⟨row',gs,hF⟩:=bS hF;obtain⟨s1,v7,s3,s4,s5⟩:=xB gs;have sY:List.take j.a.toNat (List.map enc lv[n.a.toNat])++[iI v.a]++List.drop (j.a.toNat+1) (List.map enc lv[n.a.toNat])=List.map enc row':=s5;obtain⟨lv',gl,hF⟩:=bS hF;have st:=xL gl;have hE:=wA hF; subst hE;rcases row_int f2 with⟨_,e0,_⟩|⟨cS,iO,rfl,d1,d2⟩
    ·rw[e0]at q3; exact absurd q3 (by simp)
    simp only at d1;have k3:=g5 cS ((f4 cS).2 (.inl ((d2 cS).2 rfl)));have k3E:=hbd cS ((f4 cS).2 (.inl ((d2 cS).2 rfl)));have m3:∀ (a b:nO),((E.set 0 a).set 0 b)[3]? =_:=fun a b=>(qi (by omega)).trans ((qi (by omega)).trans g3);have m0:∀ (a b:nO),((E.set 0 a).set 0 b)[0]? =_:=fun a b=> ql (by simp; omega);have m0':∀ (a b d:nO),(((E.set 0 a).set 0 b).set 0 d)[0]? =_:=fun a b d=> ql (by simp; omega);have mk:∀ (a b d f:nO),((((E.set 0 a).set 0 b).set 0 d).set 0 f)[cS]? =_:=fun a b d f=>(qi (by omega)).trans ((qi (by omega)).trans ((qi (by omega)).trans ((qi (by omega)).trans d1)));have h2:∀ (a b d f z:nO),(((((E.set 0 a).set 0 b).set 0 d).set 0 f).set cS z)[2]? =_:=fun a b d f z=>(qi (by omega)).trans ((qi (by omega)).trans ((qi (by omega)).trans ((qi (by omega)).trans ((qi (by omega)).trans g2))));have rz:∀ (a b d f z y:nO),((((((E.set 0 a).set 0 b).set 0 d).set 0 f).set cS z).set 2 y)[2]? =some y:=fun a b d f z y=> ql (by simp; omega);have h1:∀ (a b d f z y:nO),((((((E.set 0 a).set 0 b).set 0 d).set 0 f).set cS z).set 2 y)[1]? =_:=fun a b d f z y=>(qi (by omega)).trans ((qi (by omega)).trans ((qi (by omega)).trans ((qi (by omega)).trans ((qi (by omega)).trans ((qi (by omega)).trans g1)))));have sb:∀ (a b d f z y t:nO),(((((((E.set 0 a).set 0 b).set 0 d).set 0 f).set cS z).set 2 y).set 1 t)[1]? =some t:=fun a b d f z y t=> ql (by simp; omega);have h0:∀ (a b d f z y t:nO),(((((((E.set 0 a).set 0 b).set 0 d).set 0 f).set cS z).set 2 y).set 1 t)[0]? =some f:=fun a b d f z y t=>(qi (by omega)).trans ((qi (by omega)).trans ((qi (by omega)).trans (ql (by simp; omega))));have fz:∀ (a b d f y t r:nO) c2,frz ⟨(((((((E.set 0 a).set 0 b).set 0 d).set 0 f).set cS (iO,some (List.map enc row'))).set 2 y).set 1 t).set 0 r,c2⟩ 15 (V.sl 3 u 0 lv.length 1)=some (V.isl (List.map enc lv')):=fun a b d f y t r c2=> by
     have hl':lv.length=lv'.length:=by rw[st]; simp
     have sl:row'.length=lv[n.a.toNat].length:=s4;have ek:∀k,3≤k→k≠cS→((((((((E.set 0 a).set 0 b).set 0 d).set 0 f).set cS (iO,some (List.map enc row'))).set 2 y).set 1 t).set 0 r)[k]? =E[k]?:=fun k p q=>(qi (by omega)).trans ((qi (by omega)).trans ((qi (by omega)).trans ((qi q).trans ((qi (by omega)).trans ((qi (by omega)).trans ((qi (by omega)).trans (qi (by omega))))))));have e3:((((((((E.set 0 a).set 0 b).set 0 d).set 0 f).set cS (iO,some (List.map enc row'))).set 2 y).set 1 t).set 0 r)[cS]? =_:=(qi (by omega)).trans ((qi (by omega)).trans ((qi (by omega)).trans (ql (by simp; omega))));have rD:vs.set n.a.toNat (V.sl cS iO 0 row'.length 1)=vs:=by rw[sl]; exact set_self f1
     rw[hl'];refine Deep.fz (α:=aJ) (rep_at (vs:=vs) (K:=fun k=> k=cS∨K2 k) ((ek 3 (by omega) (by omega)).trans g3) ?_ fun q=>?_) 9
     ·rw[st,←rD]
      refine f5 _ _ row' (fun k=> k=cS) _ (zY e3 fun k=> vY) (fun k q=>?_) (fun k p q=>?_) (fun k=> vY)
      ·have h4:=g5 k ((f4 k).2 (.inr q))
       exact ek k (by omega) fun p=> f3 k ((d2 k).2 p) q
      ·exact f3 k ((d2 k).2 p) q
     ·rcases q with q|q
      ·omega
      ·have:=g5 3 ((f4 3).2 (.inr q)); omega
    simp only[simprocAttr, -Int.reduceNatCast',R0,hl_1,aG,cF,bM,aQ,qj,tE,g0,wn,wk,eq_false c0,eq_true c1,n3,m3,qw,ra,rc,o1,hlr,eq_true q3,eq_true ra,eq_true rc,eq_true hn,wj,wv,m0,m0',mk,s1,v7,s3,sY,h2,rz,h1];exact ze (by simp only[simprocAttr, -Int.reduceNatCast',R0,qg,p450,Rs.ev,hl_1,aG,cF,bM,aQ,sb,h0,fz])
   ·rw[if_neg q3]at hF
    have hE:=wA hF; subst hE;simp only[simprocAttr, -Int.reduceNatCast',R0,hl_1,aG,cF,bM,aQ,qj,tE,g0,wn,wk,eq_false c0,eq_true c1,n3,qw,ra,rc,o1,hlr,eq_false q3,eq_true ra,eq_true rc,eq_true hn,n2,pj,t1];exact ze (by simp only[simprocAttr, -Int.reduceNatCast',R0,qg,p450,Rs.ev,hl_1,aG,cF,bM,aQ,po,t0,tz])
  rw[if_neg c1]at hF;by_cases c2:k.a=2
  ·rw[if_pos c2]at hF
   by_cases q1:1≤lv.length
   ·rw[if_pos q1]at hF
    have hE:=wA hF; subst hE;have sl:xA 1 (V.sl 3 u 0 lv.length 1) (some (iI 1)) none=some (V.sl 3 u 1 (lv.length - 1) 1):=slice_lo (d:=1) (by decide) (by omega);have fz:∀ (a b y t r:nO) c2,frz ⟨((((E.set 0 a).set 0 b).set 2 y).set 1 t).set 0 r,c2⟩ 15 (V.sl 3 u 1 (lv.length - 1) 1)=some (V.isl (List.map enc (lv.drop 1))):=fun a b y t r c2=> d1fz ((qi (by omega)).trans ((qi (by omega)).trans ((qi (by omega)).trans ((qi (by omega)).trans ((qi (by omega)).trans g3))))) (g4.frame fun k q=> by have:=g5 k q; exact(qi (by omega)).trans ((qi (by omega)).trans ((qi (by omega)).trans ((qi (by omega)).trans (qi (by omega)))))) q1 9;simp only[simprocAttr, -Int.reduceNatCast',R0,hl_1,aG,cF,bM,aQ,qj,tE,g0,wn,wk,eq_false c0,eq_false c1,eq_true c2,n3,qw,sl,n2,pj,t1];exact ze (by simp only[simprocAttr, -Int.reduceNatCast',R0,qg,p450,Rs.ev,hl_1,aG,cF,bM,aQ,po,t0,fz])
   ·rw[if_neg q1]at hF; cases hF
  rw[if_neg c2]at hF;by_cases c3:k.a=3
  ·rw[if_pos c3]at hF
   obtain⟨y,gy,hF⟩:=bS hF;have wy:xans A 421 (eS k.b) [(eC x.a.C)]=some ((eC y.a),(eS y.b)):=s421 k.b x.a.C gy;have hE:=wA hF; subst hE;have m0:∀ (a b:nO),((E.set 0 a).set 0 b)[0]? =_:=fun a b=> ql (by simp; omega);have h2:∀ (a b d:nO),(((E.set 0 a).set 0 b).set 0 d)[2]? =_:=fun a b d=>(qi (by omega)).trans ((qi (by omega)).trans ((qi (by omega)).trans g2));have rz:∀ (a b d z:nO),((((E.set 0 a).set 0 b).set 0 d).set 2 z)[2]? =some z:=fun a b d z=> ql (by simp; omega);have h2m:∀ (a b d z z':nO),(((((E.set 0 a).set 0 b).set 0 d).set 2 z).set 2 z')[2]? =some z':=fun a b d z z'=> ql (by simp; omega);have h1:∀ (a b d z z':nO),(((((E.set 0 a).set 0 b).set 0 d).set 2 z).set 2 z')[1]? =_:=fun a b d z z'=>(qi (by omega)).trans ((qi (by omega)).trans ((qi (by omega)).trans ((qi (by omega)).trans ((qi (by omega)).trans g1))));have sb:∀ (a b d z z' t:nO),((((((E.set 0 a).set 0 b).set 0 d).set 2 z).set 2 z').set 1 t)[1]? =some t:=fun a b d z z' t=> ql (by simp; omega);have h0:∀ (a b d z z' t:nO),((((((E.set 0 a).set 0 b).set 0 d).set 2 z).set 2 z').set 1 t)[0]? =some d:=fun a b d z z' t=>(qi (by omega)).trans ((qi (by omega)).trans ((qi (by omega)).trans (ql (by simp; omega))));have fz:∀ (a b d z z' t r:nO) c2,frz ⟨((((((E.set 0 a).set 0 b).set 0 d).set 2 z).set 2 z').set 1 t).set 0 r,c2⟩ 15 (V.sl 3 u 0 lv.length 1)=_:=fun a b d z z' t r c2=> cr _ c2 ((qi (by omega)).trans ((qi (by omega)).trans ((qi (by omega)).trans ((qi (by omega)).trans ((qi (by omega)).trans ((qi (by omega)).trans ((qi (by omega)).trans g3))))))) (fun k q=> by have:=g5 k q; exact(qi (by omega)).trans ((qi (by omega)).trans ((qi (by omega)).trans ((qi (by omega)).trans ((qi (by omega)).trans ((qi (by omega)).trans (qi (by omega)))))))) 9;simp only[simprocAttr, -Int.reduceNatCast',R0,hl_1,aG,cF,bM,aQ,qj,tE,g0,wn,wk,eq_false c0,eq_false c1,eq_false c2,eq_true c3,n2,wy,m0,h2,rz,h2m,h1];exact ze (by simp only[simprocAttr, -Int.reduceNatCast',R0,qg,p450,Rs.ev,hl_1,aG,cF,bM,aQ,sb,h0,fz])
  rw[if_neg c3]at hF;have hE:=wA hF; subst hE;simp only[simprocAttr, -Int.reduceNatCast',R0,hl_1,aG,cF,bM,aQ,qj,tE,g0,wn,wk,eq_false c0,eq_false c1,eq_false c2,eq_false c3,n2,pj,t1];exact ze (by simp only[simprocAttr, -Int.reduceNatCast',R0,qg,p450,Rs.ev,hl_1,aG,cF,bM,aQ,po,t0,tz])
 show W A (.block 0 (.loop true b450_1)) _ _ _;rw[qp];refine qF glv _ rfl (fun i l e h=> h.ents[0]? =some (0,some (eS x.b))∧h.ents[1]? =some (1,some [iI 0,V.nils,V.nils,V.nils])∧h.ents[2]? =some (2,some [iI x.a.C.P,iL x.a.C.D,iL x.a.C.M,iL x.a.L])∧(∃u vs K,h.ents[3]? =some (u,some vs)∧reps h vs l K∧(∀k,K k→4≤k)∧e.at 4=V.sl 3 u 0 l.length 1)∧e.length=76∧e.at 0=V.ptr 0 0 0∧e.at 2=V.ptr 1 1 0∧e.at 3=V.ptr 2 2 0∧e.at 5=iI i) ?_ ?_ ?_
 ·refine⟨rfl,rfl,rfl,⟨3,[],fun _=> False,rfl,fun _ x=> x,fun _ x=> x.elim,?_⟩,?_⟩
  all_goals simp only[simprocAttr, -Int.reduceNatCast',R0,hl_0,aA]
 ·rintro i l e ⟨E,c⟩ ⟨g0,g1,g2,⟨u,vs,K,g3,g4,g5,aQ⟩,hl_1,aG,cF,bM,aL⟩ hlt hw o ho
  simp only at g0 g1 g2 g3;unfold F450_1_B at ho;obtain⟨x5,dB,ho⟩:=bS ho;obtain⟨lH,lG⟩:=qm dB;obtain⟨x7,dQ,ho⟩:=bS ho;have w8:=t94 x5 dQ;obtain⟨dh,pB,ho⟩:=bS ho;obtain⟨q1,q2,rfl⟩:=app_w pB;have hE:=wA ho; subst hE;have hln:=g4.len;have hE3:3 < E.length:=gA g3;have w9:∀x y c',qS 1 24 (.sl 3 u 0 l.length 1) 1 [V.sl E.length c 0 x7.length 1] ⟨E++[x]++[y],c'⟩=_:=fun x y c'=> zj (E:=E++[x]++[y]) (vs:=vs) (by rw[gB (by simp; omega),gB hE3]; exact g3) hln (by simpa using q1) (by simpa using q2);simp only[simprocAttr, -Int.reduceNatCast',R0,b450_1,hl_1,aG,cF,bM,aQ,aL,g2,eq_true hlt,hw,lH,lG,w8,qK,zm,qw,w9];have r1:=xk (h:=⟨E,c⟩) (h1:=⟨E++[(c,some (x7.map enc))],c+1⟩) (h2:=⟨(E++[(c,some (x7.map enc))]++[(c+1,some [V.sl E.length c 0 x7.length 1])]).set 3 (c+1+1,some (vs++[V.sl E.length c 0 x7.length 1])),c+1+1+1⟩) g4
   (zY (l:=x7) (K:=fun k=> k=E.length) (qw _ _) fun k=> vY) (fun k q=> by show E.length≤k; omega) (fun k q=> gB q) (fun k p q=> qL (fun e=> by subst e; exact q.elim (fun q=> by have:=g5 3 q; omega) (fun q=> by omega)) p) (by simp)
  refine ai rfl ⟨(qi (by omega)).trans (by rw[wO,gB (by omega)]; exact g0),(qi (by omega)).trans (by rw[wO,gB (by omega)]; exact g1),(qi (by omega)).trans (by rw[wO,gB (by omega)]; exact g2),⟨_,_,_,ql (by simp; omega),r1,fun k q=> q.elim (fun q=> g5 k q) (fun q=> by omega),?_⟩,?_⟩
  all_goals simp only[simprocAttr, -Int.reduceNatCast',R0,hl_1,aG,cF,bM,aQ,aL,eq_true hlt,hw,lH,lG,w8,wM,vJ,vG]
 ·rintro i l e ⟨E,c⟩ ⟨g0,g1,g2,⟨u,vs,K,g3,g4,g5,aQ⟩,hl_1,aG,cF,bM,aL⟩ hge t1 ho
  simp only at g0 g1 g2 g3;unfold F450_1_D at ho;have hE:=wA ho; subst hE;simp only[simprocAttr, -Int.reduceNatCast',R0,b450_1,hl_1,aG,cF,bM,aQ,aL,g2,eq_false hge];intro ht; subst ht;exact⟨g0,g1,u,vs,K,g3,g4,g5,rfl⟩
def F447(a0:List U8):Option (T4 qc Int Int Int):=
 (F405 a0).bind fun x1=>
 (F450 x1).bind fun x3=>
 (F411 x3.b 8).bind fun x5=>
 (F412 x5.b [0,1,1,2,2,3,x5.a]).bind fun x7=>
 (F416 x7.b 24).bind fun x9=>
 (quoI x9.a 23).bind fun bC=>
 (chk ((x3.a.L.length:Int)+bC)).bind fun eI=>
 (F416 x9.b eI).bind fun cW=>
 (F416 cW.b 24).bind fun iG=>
 (quoI iG.a 23).bind fun pM=>
 (chk (6+pM)).bind fun fF=>
 (F416 iG.b fF).bind fun gY=>
 some ⟨x3.a,x7.a,cW.a,gY.a⟩
theorem s447(a0:List U8){r:T4 qc Int Int Int}(hF:F447 a0=some r):ans A 447 [iL a0]=some (EncR.enc r):=by
 refine qB (f:=p447) rfl rfl rfl fun e hl he=>?_;have aA:=he 0 _ rfl;have hl_0:e.length=33:=hl;clear he hl;show W A b447 e ⟨[],0⟩ _;unfold F447 at hF;obtain⟨x1,bD,hF⟩:=bS hF;have w2:res A 405 [iL a0] ⟨[(0,some [iI 0,V.nils,V.nils,V.nils])],1⟩=some (V.ptr 1 1 0,⟨[(0,some [iI 0,V.nils,V.nils,V.nils]),(1,some (eS x1))],2⟩):=by
  obtain⟨_,w,rfl⟩:=d405 a0 bD [(0,some [iI 0,V.nils,V.nils,V.nils])] 1;exact w
 obtain⟨x3,dN,hF⟩:=bS hF;have w4:xans A 450 (eS x1) []=some (eF x3.a,(eS x3.b)):=s450 x1 dN;obtain⟨x5,dB,hF⟩:=bS hF;have w6:xans A 411 (eS x3.b) [iI 8]=some (iI x5.a,(eS x5.b)):=s411 x3.b 8 dB;obtain⟨x7,dQ,hF⟩:=bS hF;have w8:xans A 412 (eS x5.b) [V.isl [iI 0,iI 1,iI 1,iI 2,iI 2,iI 3,iI x5.a]]=some (iI x7.a,(eS x7.b)):=s412 x5.b [0,1,1,2,2,3,x5.a] dQ;obtain⟨x9,fR,hF⟩:=bS hF;have rL:xans A 416 (eS x7.b) [iI 24]=some (iI x9.a,(eS x9.b)):=s416 x7.b 24 fR;obtain⟨bC,dU,hF⟩:=bS hF;obtain⟨kV,kU⟩:=quo_w dU;obtain⟨eI,fJ,hF⟩:=bS hF;have rH:=qD fJ;obtain⟨cW,dY,hF⟩:=bS hF;have rA:xans A 416 (eS x9.b) [iI eI]=some (iI cW.a,(eS cW.b)):=s416 x9.b eI dY;obtain⟨iG,iU,hF⟩:=bS hF;have bv:xans A 416 (eS cW.b) [iI 24]=some (iI iG.a,(eS iG.b)):=s416 cW.b 24 iU;obtain⟨pM,oW,hF⟩:=bS hF;obtain⟨f7,f0⟩:=quo_w oW;obtain⟨fF,fS,hF⟩:=bS hF;have sN:=qD fS;obtain⟨gY,iR,hF⟩:=bS hF;have e9:xans A 416 (eS iG.b) [iI fF]=some (iI gY.a,(eS gY.b)):=s416 iG.b fF iR;cases hF;simp only[simprocAttr,R0,b447,qQ,qj,qj,qj,qj,qj,qj,qj, *];exact qh (by simp only[simprocAttr,R0,qg,p447,Rs.ev,qd,qQ,qj,qj,qj,qj,qj,qj,qj, *])
def F441(a0:List U8):Option (T2 qc Int):=
 (F447 a0).bind fun x1=>
 some ⟨x1.a,x1.d⟩
theorem s441(a0:List U8){r:T2 qc Int}(hF:F441 a0=some r):ans A 441 [iL a0]=some (EncR.enc r):=by
 refine qB (f:=p441) rfl rfl rfl fun e hl he=>?_;have aA:=he 0 _ rfl;have hl_0:e.length=17:=hl;clear he hl;show W A b441 e ⟨[],0⟩ _;unfold F441 at hF;obtain⟨x1,bD,hF⟩:=bS hF;have w2:ans A 447 [iL a0]=some (V.tup [eF x1.a,iI x1.b,iI x1.c,iI x1.d]):=s447 a0 bD;cases hF;simp only[simprocAttr,R0,b441, *];exact qh (by simp only[simprocAttr,R0,qg,p441,Rs.ev,qd, *])
def F449(p:Int)(x:qc)(q:Int)(n r pl v:Int)(s:L3):Option L3:=(F202 x n q).bind fun a=>(F211 a r).bind fun i=>(chk (n - 1)).bind fun n1=>(F202 x n1 q).bind fun b=>(F211 b pl).bind fun k=> if 0≤i then if 0≤k then F75 p n i k v s else some s else some s
def S449(p:Int)(dv m lv:V)(N c1:Nat)(K:Ks)(R:List (nO)→Prop)(s:L3)(E:List (nO)):Prop:=Deep.rep ⟨E,0⟩ m s K∧R E∧E[N]? =some (c1,some [iI p,dv,m,lv])
set_option maxHeartbeats 8000000 in
theorem st449(x:qc)(q:Int)(p:Int)(dv m lv:V)(N c1:Nat)(K:Ks)(R:List (nO)→Prop)(hN:¬K N)(hR:∀E E',R E→(∀k,k < E.length→¬K k→E'[k]? =E[k]?)→R E'):Step4 449 [] [eQ x,V.iptr [iI q],V.ptr N c1 0] (S449 p dv m lv N c1 K R) (fun n r pl v s=> F449 p x q n r pl v s) where
 call:=by
  rintro n r pl v s s' hF E c h;obtain⟨h1,h2,h3⟩:=h;unfold F449 at hF;obtain⟨a,ga,hF⟩:=bS hF;have wa:ans A 202 [(eF x),iI n,iI q]=some (iL a):=s202 x n q ga;obtain⟨i,gi,hF⟩:=bS hF;have wi:ans A 211 [iL a,iI r]=some (iI i):=s211 a r gi;obtain⟨n1,gn,hF⟩:=bS hF;have wn:=qD gn;obtain⟨b,gb,hF⟩:=bS hF;have wb:ans A 202 [(eF x),iI n1,iI q]=some (iL b):=s202 x n1 q gb;obtain⟨k,gk,hF⟩:=bS hF;have wk:ans A 211 [iL b,iI pl]=some (iI k):=s211 b pl gk;have key:∃E' c',(∃h',res A 449 [iI n,iI r,iI pl,iI v,eQ x,V.iptr [iI q],V.ptr N c1 0] ⟨E,c⟩=some (V.undef,h')∧h'=⟨E',c'⟩)∧S449 p dv m lv N c1 K R s' E':=by
   by_cases c0:0≤i
   ·rw[if_pos c0]at hF
    by_cases c2:0≤k
    ·rw[if_pos c2]at hF
     have r1:Deep.rep ⟨E,c⟩ m s K:=Deep.frame h1 fun _ _=> rfl;obtain⟨⟨E',c'⟩,q1,q2,q3,q4⟩:=d75 (dv:=dv) hF E c r1;refine⟨E',c',res_ex (f:=p449) rfl rfl rfl fun e hl he=>?_,⟨Deep.frame q2 fun _ _=> rfl,hR E E' h2 q3,(q3 N (gA h3) hN).trans h3⟩⟩;have aA:=he 0 _ rfl;have aB:=he 1 _ rfl;have aU:=he 2 _ rfl;have cX:=he 3 _ rfl;have oH:=he 4 _ rfl;have oG:=he 5 _ rfl;have j9:=he 6 _ rfl;have hl_0:e.length=39:=hl;clear he hl;show W A b449 e ⟨E,c⟩ _;simp only[simprocAttr,R0,b449,h3,qQ,q1, *];refine ai (fun _=> trivial) ?_;simp only[simprocAttr,R1,qg,p449,mapO];rfl
    ·rw[if_neg c2]at hF
     cases hF;refine⟨E,c,res_ex (f:=p449) rfl rfl rfl fun e hl he=>?_,⟨h1,h2,h3⟩⟩;have aA:=he 0 _ rfl;have aB:=he 1 _ rfl;have aU:=he 2 _ rfl;have cX:=he 3 _ rfl;have oH:=he 4 _ rfl;have oG:=he 5 _ rfl;have j9:=he 6 _ rfl;have hl_0:e.length=39:=hl;clear he hl;show W A b449 e ⟨E,c⟩ _;simp only[simprocAttr,R0,b449,h3, *];refine ai (fun _=> trivial) ?_;simp only[simprocAttr,R1,qg,p449,mapO];rfl
   ·rw[if_neg c0]at hF
    cases hF;refine⟨E,c,res_ex (f:=p449) rfl rfl rfl fun e hl he=>?_,⟨h1,h2,h3⟩⟩;have aA:=he 0 _ rfl;have aB:=he 1 _ rfl;have aU:=he 2 _ rfl;have cX:=he 3 _ rfl;have oH:=he 4 _ rfl;have oG:=he 5 _ rfl;have j9:=he 6 _ rfl;have hl_0:e.length=39:=hl;clear he hl;show W A b449 e ⟨E,c⟩ _;simp only[simprocAttr,R0,b449,h3, *];refine ai (fun _=> trivial) ?_;simp only[simprocAttr,R1,qg,p449,mapO];rfl
  obtain⟨E',c',⟨_,k1,rfl⟩,k2⟩:=key;exact⟨E',c',k1,k2⟩
 pad:=fun s E x h=> by
  obtain⟨h1,h2,h3⟩:=h;exact⟨Deep.frame h1 fun k q=> gB (Deep.bd h1 q),hR E _ h2 fun k q _=> gB q,(gB (gA h3)).trans h3⟩
def F442_2_B(lv:aJ)(n:Int)(kp:L1)(i:Int)(s:L1):Option (L1⊕L1):=(getI kp i).bind fun j=>(getI lv n).bind fun row=>(getI row j).bind fun v=>(app 8 s [v]).bind fun l=> some (.inl l)
def F442_2_D(i:Int)(s:L1):Option L1:=some s
def F442_1_B(x:qc)(q:Int)(n:Int)(s:aJ×L1):Option ((aJ×L1)⊕(aJ×L1)):=(F202 x n q).bind fun kp=>(forR 0 (kp.length:Int) (F442_2_B x.L n kp) F442_2_D []).bind fun l=>(app 24 s.1 [l]).bind fun lv=>(app 8 s.2 [(l.length:Int)]).bind fun d=> some (.inl (lv,d))
def F442_1_D(n:Int)(s:aJ×L1):Option (aJ×L1):=some s
def F442(x:qc)(q:Int):Option (T2 qc Int):=(F166 x 0 0 q).bind fun c=> if c=0 then(forR 0 (x.C.D.length:Int) (F442_1_B x q) F442_1_D ([],[])).bind fun s=>(F74 x.C.P s.2).bind fun o=>(F85 x.C.M (fun n r pl v s=> F449 o.P x q n r pl v s) o.M).bind fun m=> some ⟨⟨⟨o.P,o.D,m⟩,s.1⟩,0⟩else some ⟨⟨⟨0,[],[]⟩,[]⟩,c⟩
set_option maxHeartbeats 8000000 in
theorem d442(x:qc)(q:Int){r:T2 qc Int}(hF:F442 x q=some r):∃v h',res A 442 [(eF x),iI q] Heap.empty=some (v,h')∧∃vs K,v=V.tup vs∧repF h' vs [⟨r.a⟩,⟨r.b⟩] K:=by
 refine xp (f:=p442) rfl rfl rfl fun e hl he=>?_;have aA:=he 0 _ rfl;have aB:=he 1 _ rfl;have hl_0:e.length=74:=hl;clear he hl;show W A b442 e ⟨[],0⟩ _;unfold F442 at hF;have hz:∀h:Heap,Deep.rep h (V.agg [iI 0,V.nils,V.nils,V.nils]) (⟨⟨0,[],[]⟩,[]⟩:qc) (fun _=> False∨False∨False):=fun h=>⟨_,rfl,rec4 (K1:=fun _=> False) (K2:=fun _=> False) (K3:=fun _=> False) (xf _) (xf _) (xf _) (fun _ q _=> q) (fun _ q _=> q) (fun _ q _=> q)⟩;obtain⟨c,gc,hF⟩:=bS hF;have wc:ans A 166 [(eF x),iI 0,iI 0,iI q]=some (iI c):=s166 x 0 0 q gc;by_cases c0:c=0
 rotate_left
 ·rw[if_neg c0]at hF
  have hE:=wA hF; subst hE;simp only[simprocAttr, -Int.reduceNatCast',R0,b442,hl_0,aA,aB,wc,eq_false c0];refine ai (fun _=> trivial) ⟨V.tup [V.agg [iI 0,V.nils,V.nils,V.nils],iI c],?_,_,_,rfl,ks (hz _) _⟩;simp only[simprocAttr, -Int.reduceNatCast',R0,qg,p442,Rs.ev,hl_0,aA,aB,wc,eq_false c0]
 rw[if_pos c0]at hF;obtain⟨⟨lv,d⟩,gd,hF⟩:=bS hF;simp only[simprocAttr, -Int.reduceNatCast',R0,b442,hl_0,aA,aB,wc,eq_true c0];refine W.mono (Q:=fun x' e h=> x'= .normal∧∃ud w K,h.ents[2]? =some (2,some [iI 0,V.nils,V.nils,V.nils])∧h.ents[3]? =some (3,some [iI x.C.P,iL x.C.D,iL x.C.M])∧h.ents[4]? =some (4,some [iI 0,V.nils,V.nils,w])∧h.ents[5]? =some (ud,some (d.map enc))∧Deep.rep h w lv K∧(∀k,K k→6≤k)∧e.length=74∧e.at 2=eQ x∧e.at 3=V.iptr [iI q]∧e.at 4=V.ptr 2 2 0∧e.at 7=V.ptr 3 3 0∧e.at 8=V.ptr 4 4 0∧e.at 9=V.sl 5 ud 0 d.length 1) ?_ ?_
 ·show W A (.block 0 (.loop true b442_1)) _ _ _
  rw[qp];refine qF gd _ rfl (fun n s e h=>∃ud w K,h.ents[2]? =some (2,some [iI 0,V.nils,V.nils,V.nils])∧h.ents[3]? =some (3,some [iI x.C.P,iL x.C.D,iL x.C.M])∧h.ents[4]? =some (4,some [iI 0,V.nils,V.nils,w])∧h.ents[5]? =some (ud,some (List.map enc s.2))∧Deep.rep h w s.1 K∧(∀k,K k→6≤k)∧e.length=74∧e.at 2=eQ x∧e.at 3=V.iptr [iI q]∧e.at 4=V.ptr 2 2 0∧e.at 7=V.ptr 3 3 0∧e.at 8=V.ptr 4 4 0∧e.at 9=V.sl 5 ud 0 s.2.length 1∧e.at 27=iI (x.C.D.length:Int)∧e.at 28=iI n) ?_ ?_ ?_
  ·refine⟨5,V.nils,fun _=> False,rfl,rfl,rfl,rfl,xf _,fun _ q=> q.elim,?_⟩
   simp only[simprocAttr, -Int.reduceNatCast',R0,hl_0,aA,aB,vG]
  ·clear hl_0 aA aB
   rintro n ⟨L,D⟩ e ⟨E,c⟩ ⟨ud,w,K,g2,g3,g4,g5,g6,g7,hl_1,cF,bM,aQ,aZ,aP,bZ,eX,fQ⟩ hlt hw oo ho;simp only at g2 g3 g4 g5 g6;unfold F442_1_B at ho;obtain⟨kp,gk,ho⟩:=bS ho;have wk:ans A 202 [(eF x),iI n,iI q]=some (iL kp):=s202 x n q gk;obtain⟨l,gl,ho⟩:=bS ho;obtain⟨L2,gL,ho⟩:=bS ho;obtain⟨D2,gD,ho⟩:=bS ho;have hE:=wA ho; subst hE;have hE5:5 < E.length:=gA g5;simp only[simprocAttr, -Int.reduceNatCast',R0,b442_1,hl_1,cF,bM,aQ,aZ,aP,bZ,eX,fQ,eq_true hlt,hw,wk];refine W.mono (Q:=fun x' e h=> x'= .normal∧∃u,h.ents[E.length]? =some (u,some (l.map enc))∧(∀k,k < E.length→h.ents[k]? =E[k]?)∧e.length=74∧e.at 2=eQ x∧e.at 3=V.iptr [iI q]∧e.at 4=V.ptr 2 2 0∧e.at 7=V.ptr 3 3 0∧e.at 8=V.ptr 4 4 0∧e.at 9=V.sl 5 ud 0 D.length 1∧e.at 27=iI (x.C.D.length:Int)∧e.at 28=iI n∧e.at 10=iI n∧e.at 11=V.sl E.length u 0 l.length 1) ?_ ?_
   rotate_left
   ·rintro _ e ⟨E1,c1⟩ ⟨rfl,u,f1,f2,hl_2,rT,pR,lR,mP,rR,ej,uV,uU,nI,pK⟩
    simp only at f1 f2;have hE1:E.length < E1.length:=gA f1;have hKE:∀k,K k→k < E.length:=fun k q=> Deep.bd g6 q;have a2:=(f2 2 (by omega)).trans g2;have a3:=(f2 3 (by omega)).trans g3;have a4:=(f2 4 (by omega)).trans g4;have a5:=(f2 5 (by omega)).trans g5;have pre:∀ (y:nO) k,k < E1.length→(E1++[y])[k]? =E1[k]?:=fun y k hk=> gB hk;obtain⟨w',E',c',K',p1,p2,p3,p4,p5⟩:=xl (E:=E1++[(c1,some [V.sl E.length u 0 l.length 1])]) (c:=c1+1) (b:=24) (v:=w) (x:=V.sl E.length u 0 l.length 1) (l:=L) (l2:=L2) (a:=l) (K:=K) (K1:=fun k=> k=E.length)
     (Deep.frame g6 fun k q=> by have:=hKE k q; exact(pre _ k (by omega)).trans (f2 k this)) (zY ((pre _ _ hE1).trans f1) fun k=> vY) (fun k q z=> by have:=hKE k q; omega) gL
    have dx:(E1++[(c1,some [V.sl E.length u 0 l.length 1])]).length=E1.length+1:=by simp
    rw[dx]at p3 p4 p5;obtain⟨v1,v2⟩:=rep_one p2;have nK:∀k,k≤5→¬K k:=fun k hk q=> by have:=g7 k q; omega
    have e2:E'[2]? =_:=(p4 2 (by omega) (nK 2 (by omega))).trans ((pre _ _ (by omega)).trans a2);have e3:E'[3]? =_:=(p4 3 (by omega) (nK 3 (by omega))).trans ((pre _ _ (by omega)).trans a3);have e4:E'[4]? =_:=(p4 4 (by omega) (nK 4 (by omega))).trans ((pre _ _ (by omega)).trans a4);have e5:E'[5]? =_:=(p4 5 (by omega) (nK 5 (by omega))).trans ((pre _ _ (by omega)).trans a5);have eL:E'[E.length]? =_:=(p4 E.length (by omega) (fun q=> by have:=hKE _ q; omega)).trans ((pre _ _ hE1).trans f1);have wz:ans A 73 [iL l]=some (iI (l.length:Int)):=s73 l rfl;have wfz:frz ⟨E',c'⟩ 16 (V.sl E.length u 0 l.length 1)=some (iL l):=frzE (α:=Int) eL 11;have pd:∀y c,qS 1 8 (.sl 5 ud 0 D.length 1) 1 [iI (l.length:Int)] ⟨E'++[y],c⟩=_:=fun y c=> appE (α:=Int) (a:=(l.length:Int)) (l2:=D2) ((gB (by omega)).trans e5) gD;have a4':∀y:nO,(E1++[y])[4]? =_:=fun y=>(pre y 4 (by omega)).trans a4;have s4:∀y z:nO,((E'++[y]).set 5 z)[4]? =_:=fun y z=>(qL (by omega) (by omega)).trans e4;simp only[simprocAttr, -Int.reduceNatCast',R0,hl_2,rT,pR,lR,mP,rR,ej,uV,uU,nI,pK,a4,a4',hw,qw,p1,v1,v2,wfz,wz,pd,s4];have fr:∀ (y z t:nO) k,k < E'.length→k≠5→k≠4→(((E'++[y]).set 5 z).set 4 t)[k]? =E'[k]?:=fun y z t k h1 h2 h3=>(qi h3).trans (qL h2 h1);refine ai rfl ⟨c'+1,w',K',(fr _ _ _ 2 (by omega) (by omega) (by omega)).trans e2,(fr _ _ _ 3 (by omega) (by omega) (by omega)).trans e3,ql (by simp; omega),(qi (by omega)).trans (ql (by simp; omega)),Deep.frame p2 fun k q=>?_,fun k q=>?_,?_⟩
    ·have hb:=Deep.bd p2 q
     simp only at hb;have:6≤k:=by
      rcases p3 k q with z|z|z
      ·exact g7 k z
      ·omega
      ·omega
     exact fr _ _ _ k hb (by omega) (by omega)
    ·rcases p3 k q with z|z|z
     ·exact g7 k z
     ·omega
     ·omega
    ·simp only[simprocAttr, -Int.reduceNatCast',R0,hl_2,rT,pR,lR,mP,rR,ej,uV,uU,nI,pK,hw]
   show W A (.block 2 (.loop true b442_2)) _ _ _;rw[qp];refine qF gl _ rfl (fun i s e h=>∃u,h.ents[E.length]? =some (u,some (s.map enc))∧(∀k,k < E.length→h.ents[k]? =E[k]?)∧e.length=74∧e.at 2=eQ x∧e.at 3=V.iptr [iI q]∧e.at 4=V.ptr 2 2 0∧e.at 7=V.ptr 3 3 0∧e.at 8=V.ptr 4 4 0∧e.at 9=V.sl 5 ud 0 D.length 1∧e.at 27=iI (x.C.D.length:Int)∧e.at 28=iI n∧e.at 10=iI n∧e.at 11=V.sl E.length u 0 s.length 1∧e.at 35=iL kp∧e.at 36=iI (kp.length:Int)∧e.at 37=iI i) ?_ ?_ ?_
   ·refine⟨c,qw _ _,fun k hk=> gB hk,?_⟩
    simp only[simprocAttr, -Int.reduceNatCast',R0,hl_1,cF,bM,aQ,aZ,aP,bZ,eX,fQ]
   ·clear hl_1 cF bM aQ aZ aP bZ eX fQ
    rintro i s e ⟨E1,c1⟩ ⟨u,f1,f2,hl_1,cF,bM,aQ,aZ,aP,bZ,eX,fQ,dS,aT,bV,pH,pG⟩ nG sK oo ho;simp only at f1 f2;unfold F442_2_B at ho;obtain⟨j,gj,ho⟩:=bS ho;obtain⟨ja,jb⟩:=qm gj;obtain⟨row,gr,ho⟩:=bS ho;obtain⟨ra,rb⟩:=qm gr;obtain⟨v,gv,ho⟩:=bS ho;obtain⟨va,vb⟩:=qm gv;obtain⟨s2,gs,ho⟩:=bS ho;have hE:=wA ho; subst hE;have hE1:E.length < E1.length:=gA f1;have pd:∀y c,qS 1 8 (.sl E.length u 0 s.length 1) 1 [iI v] ⟨E1++[y],c⟩=_:=fun y c=> appE (α:=Int) (a:=v) (l2:=s2) ((gB hE1).trans f1) gs;simp only[simprocAttr, -Int.reduceNatCast',R0,b442_2,hl_1,cF,bM,aQ,aZ,aP,bZ,eX,fQ,dS,aT,bV,pH,pG,eq_true nG,sK,ja,jb,ra,rb,va,vb,qw,pd];refine ai rfl ⟨c1+1,ql (by simp; omega),fun k hk=>(qL (by omega) (by omega)).trans (f2 k hk),?_⟩;simp only[simprocAttr, -Int.reduceNatCast',R0,hl_1,cF,bM,aQ,aZ,aP,bZ,eX,fQ,dS,aT,bV,pH,pG,sK]
   ·clear hl_1 cF bM aQ aZ aP bZ eX fQ
    rintro i s e ⟨E1,c1⟩ ⟨u,f1,f2,hl_1,cF,bM,aQ,aZ,aP,bZ,eX,fQ,dS,aT,bV,pH,pG⟩ hge t1 ho;simp only at f1 f2;unfold F442_2_D at ho;have hE:=wA ho; subst hE;simp only[simprocAttr, -Int.reduceNatCast',R0,b442_2,hl_1,cF,bM,aQ,aZ,aP,bZ,eX,fQ,dS,aT,bV,pH,pG,eq_false hge];intro ht; subst ht;exact⟨u,f1,f2,rfl⟩
  ·clear hl_0 aA aB
   rintro n ⟨L,D⟩ e ⟨E,c⟩ ⟨ud,w,K,g2,g3,g4,g5,g6,g7,hl_1,cF,bM,aQ,aZ,aP,bZ,eX,fQ⟩ hge t1 ho;simp only at g2 g3 g4 g5 g6;unfold F442_1_D at ho;have hE:=wA ho; subst hE;simp only[simprocAttr, -Int.reduceNatCast',R0,b442_1,hl_1,cF,bM,aQ,aZ,aP,bZ,eX,fQ,eq_false hge];intro ht; cases ht;exact⟨ud,w,K,g2,g3,g4,g5,g6,g7,rfl⟩
 clear hl_0 aA aB;rintro _ e ⟨E0,c0⟩ ⟨rfl,ud,w,KL,g2,g3,g4,g5,g6,g7,hl_0,aU,cX,oH,eu,ep,en⟩;simp only at g2 g3 g4 g5 g6;have hE5:5 < E0.length:=gA g5;obtain⟨o,go,hF⟩:=bS hF;obtain⟨m2,gm,hF⟩:=bS hF;have hE:=wA hF; subst hE;obtain⟨_,⟨E1,c1⟩,w1,e1,e2,m,K,rfl,t1,t2,t3,t4⟩:=d74 x.C.P d go E0 c0 (dk:=5) (du:=ud) g5;simp only at t1 t2 t3 t4;have hKE:∀k,KL k→k < E0.length:=fun k q=> Deep.bd g6 q;have b2:E1[2]? =_:=(t3 2 (by omega)).trans g2;have b3:E1[3]? =_:=(t3 3 (by omega)).trans g3;have b4:E1[4]? =_:=(t3 4 (by omega)).trans g4;have b5:E1[5]? =_:=(t3 5 (by omega)).trans g5;have s3:∀y:nO,(E1.set 4 y)[3]? =_:=fun y=>(qi (by omega)).trans b3;have hKN:¬K 4:=fun q=> by have:=t2 4 q; omega
 let R:List (nO)→Prop:=fun E=> E[2]? =some (2,some [iI 0,V.nils,V.nils,V.nils])∧E[5]? =some (ud,some (d.map enc))∧Deep.rep ⟨E,0⟩ w lv KL
 have hR:∀E E',R E→(∀k,k < E.length→¬K k→E'[k]? =E[k]?)→R E':=fun E E' h hk=>
  ⟨(hk 2 (gK.1 h.1).1 (fun q=> by have:=t2 _ q; omega)).trans h.1,(hk 5 (gK.1 h.2.1).1 (fun q=> by have:=t2 _ q; omega)).trans h.2.1,Deep.frame h.2.2 fun k q=> hk k (Deep.bd h.2.2 q) (fun z=> by have:=t2 _ z; have:=hKE k q; omega)⟩
 have S0:S449 o.P (V.sl 5 ud 0 d.length 1) m w 4 4 K R o.M (E1.set 4 (4,some [iI o.P,V.sl 5 ud 0 d.length 1,m,w])):=
  ⟨Deep.frame t1 fun k q=> qi (by have:=t2 _ q; omega),⟨(qi (by omega)).trans b2,(qi (by omega)).trans b5,Deep.frame g6 fun k q=>(qi (by have:=g7 k q; omega)).trans (t3 k (hKE k q))⟩,ql (by omega)⟩
 obtain⟨⟨E2,c2⟩,w2,S1,⟨S2,S3,S4⟩,S5⟩:=e85 (st449 x q o.P (V.sl 5 ud 0 d.length 1) m w 4 4 K R hKN hR) x.C gm _ c1 S0;simp only at S1 S2 S3 S4 S5;have hE2:2 < E2.length:=gA S2;simp only[simprocAttr, -Int.reduceNatCast',R0,hl_0,aU,cX,oH,eu,ep,en,g3,qQ,w1,b4,s3,w2,S5,S2];have fin:∀z,Deep.rep ⟨E2.set 2 z,c2⟩ (V.agg [iI o.P,V.sl 5 ud 0 d.length 1,m,w]) (⟨⟨o.P,o.D,m2⟩,lv⟩:qc) (fun k=> k=5∨K k∨KL k):=fun z=>⟨_,rfl,rec4 (K1:=fun k=> k=5) (K2:=K) (K3:=KL) (by
  rw[e2]; exact zY ((qi (by omega)).trans S3) fun k=> vY) (Deep.frame S1 fun k q=> qi (by have:=t2 _ q; omega)) (Deep.frame S4 fun k q=> qi (by have:=g7 k q; omega)) (fun k p q=> by have:=t2 _ q; omega) (fun k p q=> by have:=g7 k q; omega) (fun k p q=> by have:=t2 _ p; have:=hKE k q; omega)⟩
 refine ai (fun _=> trivial) ⟨V.tup [V.agg [iI o.P,V.sl 5 ud 0 d.length 1,m,w],iI 0],?_,_,_,rfl,ks (fin _) _⟩;simp only[simprocAttr, -Int.reduceNatCast',R0,qg,p442,Rs.ev,hl_0,aU,cX,oH,eu,ep,en,ql hE2]
theorem s442(x:qc)(q:Int){r:T2 qc Int}(hF:F442 x q=some r):ans A 442 [(eF x),iI q]=some (EncR.enc r):=by
 obtain⟨_,h',h1,vs,K,rfl,h2⟩:=d442 x q hF;exact ans_tup (ss:=[1,1,1]) (fits_pair rfl (by decide)) h1 h2
def F443_2_B(a0:qc)(a1:Int)(bA:L1)(aH:L3)(dX:aJ)(aI:Int)(aE:Int)(bC:L1)(aV:Int)(mK:L1):Option ((L1)⊕(L1)):=
 (getI bC aV).bind fun dO=>
(F77 a0 aE dO).bind fun fG=>
(app 8 mK [fG]).bind fun cz=>
some (.inl cz)
def F443_2_D(a0:qc)(a1:Int)(bA:L1)(aH:L3)(dX:aJ)(aI:Int)(aE:Int)(bC:L1)(aV:Int)(mK:L1):Option (L1):=
 some mK
def F443_4_B(a0:qc)(a1:Int)(aH:L3)(aI:Int)(aE:Int)(bC:L1)(bB:L1)(fE:L1)(fD:aJ)(dZ:L1)(eH:aJ)(dV:aJ)(dL:Int)(lY:Int)(iK:L1):Option ((L1)⊕(L1)):=
 (getI bC dL).bind fun nS=>
(getI eH nS).bind fun eA=>
(getI dZ lY).bind fun d4=>
(getI eA d4).bind fun a9=>
(app 8 iK [a9]).bind fun l51=>
some (.inl l51)
def F443_4_D(a0:qc)(a1:Int)(aH:L3)(aI:Int)(aE:Int)(bC:L1)(bB:L1)(fE:L1)(fD:aJ)(dZ:L1)(eH:aJ)(dV:aJ)(dL:Int)(lY:Int)(iK:L1):Option (L1):=
 some iK
def F443_3_B(a0:qc)(a1:Int)(aH:L3)(aI:Int)(aE:Int)(bC:L1)(bB:L1)(fE:L1)(fD:aJ)(dZ:L1)(eH:aJ)(dL:Int)(dV:aJ):Option ((aJ)⊕(aJ)):=
 (forR 0 (dZ.length:Int) (F443_4_B a0 a1 aH aI aE bC bB fE fD dZ eH dV dL) (F443_4_D a0 a1 aH aI aE bC bB fE fD dZ eH dV dL) ([]:L1)).bind fun fO=>
(app 24 dV [fO]).bind fun v8=>
some (.inl v8)
def F443_3_D(a0:qc)(a1:Int)(aH:L3)(aI:Int)(aE:Int)(bC:L1)(bB:L1)(fE:L1)(fD:aJ)(dZ:L1)(eH:aJ)(dL:Int)(dV:aJ):Option (aJ):=
 some dV
def F443_1_B(a0:qc)(a1:Int)(aE:Int)(s:L1×L3×aJ×Int):Option ((L1×L3×aJ×Int)⊕(L1×L3×aJ×Int)):=
 match s with
 |(bA,aH,dX,aI)=>
  (F310 a0 aE a1).bind fun bC=>
  (forR 0 (bC.length:Int) (F443_2_B a0 a1 bA aH dX aI aE bC) (F443_2_D a0 a1 bA aH dX aI aE bC) ([]:L1)).bind fun bB=>
  (app 8 bA [(bC.length:Int)]).bind fun fE=>
  (app 24 dX [bB]).bind fun fD=>
  if aE=0 then
   some (.inl (fE,aH,fD,aI))
  else
   (chk (aE - 1)).bind fun eB=>
   (F310 a0 eB a1).bind fun dZ=>
   (F76 a0.C aE).bind fun eH=>
   (forR 0 (bC.length:Int) (F443_3_B a0 a1 aH aI aE bC bB fE fD dZ eH) (F443_3_D a0 a1 aH aI aE bC bB fE fD dZ eH) ([]:aJ)).bind fun iV=>
   (app 24 aH [iV]).bind fun l57=>
   some (.inl (fE,l57,fD,aI))
def F443_1_D(a0:qc)(a1:Int)(aE:Int)(s:L1×L3×aJ×Int):Option (L1×L3×aJ×Int):=
 match s with
 |(bA,aH,dX,aI)=>
  some (bA,aH,dX,aI)
def F443(a0:qc)(a1:Int):Option (T2 qc Int):=
 (F38 a0).bind fun x1=>
 if x1=true then
  (F54 a1 0 5).bind fun x3=>
  if x3=true then
   (forR 0 (a0.L.length:Int) (F443_1_B a0 a1) (F443_1_D a0 a1) ([],[],[],a0.C.P)).bind fun t58=> match t58 with
    |(cD,aC,lJ,kY)=>
     some ⟨⟨⟨kY,cD,aC⟩,lJ⟩,0⟩
  else
   some ⟨⟨⟨0,[],[]⟩,[]⟩,2⟩
 else
  some ⟨⟨⟨0,[],[]⟩,[]⟩,1⟩
def I443_2(a0:qc)(a1:Int)(bA:L1)(aH:L3)(dX:aJ)(aI:Int)(aE:Int)(bC:L1)(u6 u7 u8:Nat)(aV:Int)(mK:L1)(e:Env)(h:Heap):Prop:=
 ∃tY eV:Nat,h=⟨[(0,none),(1,some [iI 0,V.nils,V.nils,V.nils]),(u6,some (bA.map enc)),(u7,some (aH.map enc)),(u8,some (dX.map enc)),(5,some [iI aI,V.sl 2 u6 0 bA.length 1,V.sl 3 u7 0 aH.length 1,V.sl 4 u8 0 dX.length 1]),(tY,some (mK.map enc))],eV⟩∧e.length=132∧e.at 1=iI a1∧e.at 2=eQ a0∧e.at 4=V.ptr 1 1 0∧e.at 6=V.ptr 5 5 0∧e.at 7=iI aE∧e.at 8=iL bC∧e.at 9=V.sl 6 tY 0 mK.length 1∧e.at 10=iI aV
def P443_2(a0:qc)(a1:Int)(bA:L1)(aH:L3)(dX:aJ)(aI:Int)(aE:Int)(bC:L1)(u6 u7 u8:Nat)(bB:L1)(x:Ex)(e:Env)(h:Heap):Prop:=
 x= .normal∧∃tY eV:Nat,h=⟨[(0,none),(1,some [iI 0,V.nils,V.nils,V.nils]),(u6,some (bA.map enc)),(u7,some (aH.map enc)),(u8,some (dX.map enc)),(5,some [iI aI,V.sl 2 u6 0 bA.length 1,V.sl 3 u7 0 aH.length 1,V.sl 4 u8 0 dX.length 1]),(tY,some (bB.map enc))],eV⟩∧e.length=132∧e.at 1=iI a1∧e.at 2=eQ a0∧e.at 4=V.ptr 1 1 0∧e.at 6=V.ptr 5 5 0∧e.at 7=iI aE∧e.at 8=iL bC∧e.at 9=V.sl 6 tY 0 bB.length 1
theorem l443_2(a0:qc)(a1:Int)(bA:L1)(aH:L3)(dX:aJ)(aI:Int)(aE:Int)(bC:L1)(u6 u7 u8:Nat){lo:Int}{s:L1}{t:L1}(hF:forR lo (bC.length:Int) (F443_2_B a0 a1 bA aH dX aI aE bC) (F443_2_D a0 a1 bA aH dX aI aE bC) s=some t){e:Env}{h:Heap}(hI:I443_2 a0 a1 bA aH dX aI aE bC u6 u7 u8 lo s e h):W A c443_2 e h (P443_2 a0 a1 bA aH dX aI aE bC u6 u7 u8 t):=by
 show W A (.block 3 (.loop false b443_2)) e h _;rw[qp];refine qF hF 7 (by obtain⟨_,_,rfl,_⟩:=hI; rfl) (I443_2 a0 a1 bA aH dX aI aE bC u6 u7 u8) hI ?_ ?_
 ·rintro aV mK e h ⟨tY,eV,rfl,h_13⟩ hlt hw o ho
  unfold F443_2_B at ho;obtain⟨dO,fI,ho⟩:=bS ho;obtain⟨rI,nW⟩:=qm fI;obtain⟨fG,iT,ho⟩:=bS ho;have iw:=s77 a0 aE dO iT;obtain⟨cz,tI,ho⟩:=bS ho;have nv:=fun a b c d e=> qA (α:=Int) (n:=mK.length) (m:=1) (ds:=[iI fG]) tI (by first|rfl|simp) (by first|rfl|simp) rfl a b c d e;have w21l:=qO tI;cases ho;simp only[simprocAttr,R0,b443_2, *];refine ai rfl (ei _ (ei _ (ai rfl ?_)));simp only[simprocAttr,R0, *]
 ·rintro aV mK e h ⟨tY,eV,rfl,h_13⟩ hge t1 ho
  unfold F443_2_D at ho;cases ho;simp only[simprocAttr,R0,b443_2, *];intro ht; subst ht;refine ai rfl (ei _ (ei _ (ai rfl ?_)));simp only[simprocAttr,R0, *]
def I443_4(a0:qc)(a1:Int)(aH:L3)(aI:Int)(aE:Int)(bC:L1)(bB:L1)(fE:L1)(fD:aJ)(dZ:L1)(eH:aJ)(dV:aJ)(dL:Int)(u6 u7 u8 eV mJ:Nat)(lY:Int)(iK:L1)(e:Env)(h:Heap):Prop:=
 ∃tV y7:Nat,h=⟨[(0,none),(1,some [iI 0,V.nils,V.nils,V.nils]),((appU 1 u6 (eV+1)),some (fE.map enc)),(u7,some (aH.map enc)),((appU 1 u8 ((appC 1 (eV+1))+1)),some (fD.map enc)),(5,some [iI aI,V.sl 2 (appU 1 u6 (eV+1)) 0 fE.length 1,V.sl 3 u7 0 aH.length 1,V.sl 4 (appU 1 u8 ((appC 1 (eV+1))+1)) 0 fD.length 1]),(0,none),(eV,some [iI (bC.length:Int)]),((appC 1 (eV+1)),some [iL bB]),(mJ,some (dV.map enc)),(tV,some (iK.map enc))],y7⟩∧e.length=132∧e.at 1=iI a1∧e.at 2=eQ a0∧e.at 4=V.ptr 1 1 0∧e.at 6=V.ptr 5 5 0∧e.at 7=iI aE∧e.at 8=iL bC∧e.at 11=iL dZ∧e.at 12=V.sl 9 mJ 0 dV.length 1∧e.at 13=iL eH∧e.at 14=iI dL∧e.at 15=V.sl 10 tV 0 iK.length 1∧e.at 16=iI lY
def P443_4(a0:qc)(a1:Int)(aH:L3)(aI:Int)(aE:Int)(bC:L1)(bB:L1)(fE:L1)(fD:aJ)(dZ:L1)(eH:aJ)(dV:aJ)(dL:Int)(u6 u7 u8 eV mJ:Nat)(fO:L1)(x:Ex)(e:Env)(h:Heap):Prop:=
 x= .normal∧∃tV y7:Nat,h=⟨[(0,none),(1,some [iI 0,V.nils,V.nils,V.nils]),((appU 1 u6 (eV+1)),some (fE.map enc)),(u7,some (aH.map enc)),((appU 1 u8 ((appC 1 (eV+1))+1)),some (fD.map enc)),(5,some [iI aI,V.sl 2 (appU 1 u6 (eV+1)) 0 fE.length 1,V.sl 3 u7 0 aH.length 1,V.sl 4 (appU 1 u8 ((appC 1 (eV+1))+1)) 0 fD.length 1]),(0,none),(eV,some [iI (bC.length:Int)]),((appC 1 (eV+1)),some [iL bB]),(mJ,some (dV.map enc)),(tV,some (fO.map enc))],y7⟩∧e.length=132∧e.at 1=iI a1∧e.at 2=eQ a0∧e.at 4=V.ptr 1 1 0∧e.at 6=V.ptr 5 5 0∧e.at 7=iI aE∧e.at 8=iL bC∧e.at 11=iL dZ∧e.at 12=V.sl 9 mJ 0 dV.length 1∧e.at 13=iL eH∧e.at 14=iI dL∧e.at 15=V.sl 10 tV 0 fO.length 1
theorem l443_4(a0:qc)(a1:Int)(aH:L3)(aI:Int)(aE:Int)(bC:L1)(bB:L1)(fE:L1)(fD:aJ)(dZ:L1)(eH:aJ)(dV:aJ)(dL:Int)(u6 u7 u8 eV mJ:Nat){lo:Int}{s:L1}{t:L1}(hF:forR lo (dZ.length:Int) (F443_4_B a0 a1 aH aI aE bC bB fE fD dZ eH dV dL) (F443_4_D a0 a1 aH aI aE bC bB fE fD dZ eH dV dL) s=some t){e:Env}{h:Heap}(hI:I443_4 a0 a1 aH aI aE bC bB fE fD dZ eH dV dL u6 u7 u8 eV mJ lo s e h):W A c443_4 e h (P443_4 a0 a1 aH aI aE bC bB fE fD dZ eH dV dL u6 u7 u8 eV mJ t):=by
 show W A (.block 7 (.loop false b443_4)) e h _;rw[qp];refine qF hF 11 (by obtain⟨_,_,rfl,_⟩:=hI; rfl) (I443_4 a0 a1 aH aI aE bC bB fE fD dZ eH dV dL u6 u7 u8 eV mJ) hI ?_ ?_
 ·rintro lY iK e h ⟨tV,y7,rfl,h_38⟩ hlt hw o ho
  unfold F443_4_B at ho;obtain⟨nS,mS,ho⟩:=bS ho;obtain⟨w43a,w43b⟩:=qm mS;obtain⟨eA,mR,ho⟩:=bS ho;obtain⟨w45a,w45b⟩:=qm mR;obtain⟨d4,n9,ho⟩:=bS ho;obtain⟨mz,my⟩:=qm n9;obtain⟨a9,n7,ho⟩:=bS ho;obtain⟨mw,mv⟩:=qm n7;obtain⟨l51,fv,ho⟩:=bS ho;have w50:=fun a b c d e=> qA (α:=Int) (n:=iK.length) (m:=1) (ds:=[iI a9]) fv (by first|rfl|simp) (by first|rfl|simp) rfl a b c d e;have w50l:=qO fv;cases ho;simp only[simprocAttr,R0,b443_4, *];refine ai rfl (ei _ (ei _ (ai rfl ?_)));simp only[simprocAttr,R0, *]
 ·rintro lY iK e h ⟨tV,y7,rfl,h_38⟩ hge t1 ho
  unfold F443_4_D at ho;cases ho;simp only[simprocAttr,R0,b443_4, *];intro ht; subst ht;refine ai rfl (ei _ (ei _ (ai rfl ?_)));simp only[simprocAttr,R0, *]
def I443_3(a0:qc)(a1:Int)(aH:L3)(aI:Int)(aE:Int)(bC:L1)(bB:L1)(fE:L1)(fD:aJ)(dZ:L1)(eH:aJ)(u6 u7 u8 eV:Nat)(dL:Int)(dV:aJ)(e:Env)(h:Heap):Prop:=
 ∃mJ y9:Nat,h=⟨[(0,none),(1,some [iI 0,V.nils,V.nils,V.nils]),((appU 1 u6 (eV+1)),some (fE.map enc)),(u7,some (aH.map enc)),((appU 1 u8 ((appC 1 (eV+1))+1)),some (fD.map enc)),(5,some [iI aI,V.sl 2 (appU 1 u6 (eV+1)) 0 fE.length 1,V.sl 3 u7 0 aH.length 1,V.sl 4 (appU 1 u8 ((appC 1 (eV+1))+1)) 0 fD.length 1]),(0,none),(eV,some [iI (bC.length:Int)]),((appC 1 (eV+1)),some [iL bB]),(mJ,some (dV.map enc))],y9⟩∧e.length=132∧e.at 1=iI a1∧e.at 2=eQ a0∧e.at 4=V.ptr 1 1 0∧e.at 6=V.ptr 5 5 0∧e.at 7=iI aE∧e.at 8=iL bC∧e.at 11=iL dZ∧e.at 12=V.sl 9 mJ 0 dV.length 1∧e.at 13=iL eH∧e.at 14=iI dL
def P443_3(a0:qc)(a1:Int)(aH:L3)(aI:Int)(aE:Int)(bC:L1)(bB:L1)(fE:L1)(fD:aJ)(dZ:L1)(eH:aJ)(u6 u7 u8 eV:Nat)(iV:aJ)(x:Ex)(e:Env)(h:Heap):Prop:=
 x= .normal∧∃mJ y9:Nat,h=⟨[(0,none),(1,some [iI 0,V.nils,V.nils,V.nils]),((appU 1 u6 (eV+1)),some (fE.map enc)),(u7,some (aH.map enc)),((appU 1 u8 ((appC 1 (eV+1))+1)),some (fD.map enc)),(5,some [iI aI,V.sl 2 (appU 1 u6 (eV+1)) 0 fE.length 1,V.sl 3 u7 0 aH.length 1,V.sl 4 (appU 1 u8 ((appC 1 (eV+1))+1)) 0 fD.length 1]),(0,none),(eV,some [iI (bC.length:Int)]),((appC 1 (eV+1)),some [iL bB]),(mJ,some (iV.map enc))],y9⟩∧e.length=132∧e.at 1=iI a1∧e.at 2=eQ a0∧e.at 4=V.ptr 1 1 0∧e.at 6=V.ptr 5 5 0∧e.at 7=iI aE∧e.at 12=V.sl 9 mJ 0 iV.length 1
theorem l443_3(a0:qc)(a1:Int)(aH:L3)(aI:Int)(aE:Int)(bC:L1)(bB:L1)(fE:L1)(fD:aJ)(dZ:L1)(eH:aJ)(u6 u7 u8 eV:Nat){lo:Int}{s:aJ}{t:aJ}(hF:forR lo (bC.length:Int) (F443_3_B a0 a1 aH aI aE bC bB fE fD dZ eH) (F443_3_D a0 a1 aH aI aE bC bB fE fD dZ eH) s=some t){e:Env}{h:Heap}(hI:I443_3 a0 a1 aH aI aE bC bB fE fD dZ eH u6 u7 u8 eV lo s e h):W A c443_3 e h (P443_3 a0 a1 aH aI aE bC bB fE fD dZ eH u6 u7 u8 eV t):=by
 show W A (.block 5 (.loop false b443_3)) e h _;rw[qp];refine qF hF 10 (by obtain⟨_,_,rfl,_⟩:=hI; rfl) (I443_3 a0 a1 aH aI aE bC bB fE fD dZ eH u6 u7 u8 eV) hI ?_ ?_
 ·rintro dL dV e h ⟨mJ,y9,rfl,h_34⟩ hlt hw o ho
  unfold F443_3_B at ho;obtain⟨fO,ug,ho⟩:=bS ho;simp only[simprocAttr,R0,b443_3, *];refine W.mono (l443_4 a0 a1 aH aI aE bC bB fE fD dZ eH dV dL u6 u7 u8 eV mJ ug (ei _ (ei _ (ai rfl ?_)))) ?_
  ·simp only[simprocAttr,R0, *]
  rintro _ e _ ⟨rfl,tV,y7,rfl,h_41⟩;obtain⟨v8,tF,ho⟩:=bS ho;have w53:=fun a b c d e=> qA (α:=L1) (n:=dV.length) (m:=1) (ds:=[iL fO]) tF (by first|rfl|simp) (by first|rfl|simp) rfl a b c d e;have w53l:=qO tF;cases ho;simp only[simprocAttr,R0,qR (α:=Int) fO, *];refine ai rfl (ei _ (ei _ (ai rfl ?_)));simp only[simprocAttr,R0,qR (α:=Int) fO, *]
 ·rintro dL dV e h ⟨mJ,y9,rfl,h_34⟩ hge t1 ho
  unfold F443_3_D at ho;cases ho;simp only[simprocAttr,R0,b443_3, *];intro ht; subst ht;refine ai rfl (ei _ (ei _ (ai rfl ?_)));simp only[simprocAttr,R0, *]
def I443_1(a0:qc)(a1:Int)(aE:Int)(s:L1×L3×aJ×Int)(e:Env)(h:Heap):Prop:=
 match s with
 |(bA,aH,dX,aI)=>
  ∃u6 u7 u8 k9:Nat,h=⟨[(0,none),(1,some [iI 0,V.nils,V.nils,V.nils]),(u6,some (bA.map enc)),(u7,some (aH.map enc)),(u8,some (dX.map enc)),(5,some [iI aI,V.sl 2 u6 0 bA.length 1,V.sl 3 u7 0 aH.length 1,V.sl 4 u8 0 dX.length 1])],k9⟩∧e.length=132∧e.at 1=iI a1∧e.at 2=eQ a0∧e.at 4=V.ptr 1 1 0∧e.at 6=V.ptr 5 5 0∧e.at 7=iI aE
def P443_1(a0:qc)(a1:Int)(t:L1×L3×aJ×Int)(x:Ex)(e:Env)(h:Heap):Prop:=
 match t with
 |(cD,aC,lJ,kY)=>
  x= .normal∧∃u6 u7 u8 k9:Nat,h=⟨[(0,none),(1,some [iI 0,V.nils,V.nils,V.nils]),(u6,some (cD.map enc)),(u7,some (aC.map enc)),(u8,some (lJ.map enc)),(5,some [iI kY,V.sl 2 u6 0 cD.length 1,V.sl 3 u7 0 aC.length 1,V.sl 4 u8 0 lJ.length 1])],k9⟩∧e.length=132∧e.at 4=V.ptr 1 1 0∧e.at 6=V.ptr 5 5 0
theorem l443_1(a0:qc)(a1:Int){lo:Int}{s:L1×L3×aJ×Int}{t:L1×L3×aJ×Int}(hF:forR lo (a0.L.length:Int) (F443_1_B a0 a1) (F443_1_D a0 a1) s=some t){e:Env}{h:Heap}(hI:I443_1 a0 a1 lo s e h):W A c443_1 e h (P443_1 a0 a1 t):=by
 show W A (.block 1 (.loop false b443_1)) e h _;rw[qp];refine qF hF 6 (by rcases s with⟨_,_,_,_⟩; obtain⟨_,_,_,_,rfl,_⟩:=hI; rfl) (I443_1 a0 a1) hI ?_ ?_
 ·rintro aE ⟨bA,aH,dX,aI⟩ e h ⟨u6,u7,u8,k9,rfl,h_5⟩ hlt hw o ho
  unfold F443_1_B at ho;dsimp only at ho;obtain⟨bC,dU,ho⟩:=bS ho;have pO:ans A 310 [(eF a0),iI aE,iI a1]=some (iL bC):=s310 a0 aE a1 dU;obtain⟨bB,tD,ho⟩:=bS ho;simp only[simprocAttr,R0,b443_1,h_5,eq_true hlt,hw,pO];refine W.mono (l443_2 a0 a1 bA aH dX aI aE bC u6 u7 u8 tD (ei _ (ei _ (ai rfl ?_)))) ?_
  ·simp only[simprocAttr,R0,h_5,eq_true hlt,hw,pO]
  rintro _ e _ ⟨rfl,tY,eV,rfl,h_16⟩;obtain⟨fE,ie,ho⟩:=bS ho;have iv:=fun a b c d e=> qA (α:=Int) (n:=bA.length) (m:=1) (ds:=[iI (bC.length:Int)]) ie (by first|rfl|simp) (by first|rfl|simp) rfl a b c d e;have w24l:=qO ie;obtain⟨fD,ic,ho⟩:=bS ho;have iu:=fun a b c d e=> qA (α:=L1) (n:=dX.length) (m:=1) (ds:=[iL bB]) ic (by first|rfl|simp) (by first|rfl|simp) rfl a b c d e;have w26l:=qO ic;by_cases sF:aE=0
  ·rw[if_pos sF]at ho
   cases ho;simp only[simprocAttr,R0,h_16,eq_true hlt,hw,iv,qR (α:=Int) bB,iu,eq_true sF];refine ai rfl (ei _ (ei _ (ei _ (ei _ (ai rfl ?_)))));simp only[simprocAttr,R0,h_16,eq_true hlt,hw,iv,qR (α:=Int) bB,iu,eq_true sF]
  ·rw[if_neg sF]at ho
   obtain⟨eB,lS,ho⟩:=bS ho;have d6:=qD lS;obtain⟨dZ,nL,ho⟩:=bS ho;have aw:ans A 310 [(eF a0),iI eB,iI a1]=some (iL dZ):=s310 a0 eB a1 nL;obtain⟨eH,mT,ho⟩:=bS ho;have nh:ans A 76 [(eC a0.C),iI aE]=some (iL eH):=s76 a0.C aE mT;obtain⟨iV,tB,ho⟩:=bS ho;simp only[simprocAttr,R0,h_16,eq_true hlt,hw,iv,qR (α:=Int) bB,iu,eq_false sF,d6,aw,nh];refine W.mono (l443_3 a0 a1 aH aI aE bC bB fE fD dZ eH u6 u7 u8 eV tB (ei _ (ei _ (ai rfl ?_)))) ?_
   ·simp only[simprocAttr,R0,h_16,eq_true hlt,hw,iv,qR (α:=Int) bB,iu,eq_false sF,d6,aw,nh]
   rintro _ e _ ⟨rfl,mJ,y9,rfl,h_37⟩;obtain⟨l57,fu,ho⟩:=bS ho;have w56:=fun a b c d e=> qA (α:=aJ) (n:=aH.length) (m:=1) (ds:=[iL iV]) fu (by first|rfl|simp) (by first|rfl|simp) rfl a b c d e;have w56l:=qO fu;cases ho;simp only[simprocAttr,R0,h_37,eq_true hlt,hw,eq_false sF,qR (α:=L1) iV,w56];refine ai rfl (ei _ (ei _ (ei _ (ei _ (ai rfl ?_)))));simp only[simprocAttr,R0,h_37,eq_true hlt,hw,eq_false sF,qR (α:=L1) iV,w56]
 ·rintro aE ⟨bA,aH,dX,aI⟩ e h ⟨u6,u7,u8,k9,rfl,h_5⟩ hge t1 ho
  unfold F443_1_D at ho;dsimp only at ho;cases ho;simp only[simprocAttr,R0,b443_1,h_5,eq_false hge];intro ht; subst ht;refine ai rfl (ei _ (ei _ (ei _ (ei _ (ai rfl ?_)))));simp only[simprocAttr,R0,h_5,eq_false hge]
theorem s443(a0:qc)(a1:Int){r:T2 qc Int}(hF:F443 a0 a1=some r):ans A 443 [(eF a0),iI a1]=some (EncR.enc r):=by
 refine qB (f:=p443) rfl rfl rfl fun e hl he=>?_;have aA:=he 0 _ rfl;have aB:=he 1 _ rfl;have hl_0:e.length=132:=hl;clear he hl;have h_0:=ai hl_0 (ai aA aB);show W A b443 e ⟨[],0⟩ _;unfold F443 at hF;obtain⟨x1,bD,hF⟩:=bS hF;have w2:=s38 a0 bD;cases x1 with
 |true=>
  rw[if_pos rfl]at hF;obtain⟨x3,dN,hF⟩:=bS hF;have w4:=s54 a1 0 5 dN;cases x3 with
  |true=>
   rw[if_pos rfl]at hF;obtain⟨⟨cD,aC,lJ,kY⟩,uf,hF⟩:=bS hF;dsimp only at hF;simp only[simprocAttr,R0,b443, *];refine W.mono (l443_1 a0 a1 uf (ei _ (ei _ (ei _ (ei _ (ai rfl ?_)))))) ?_
   ·simp only[simprocAttr,R0, *]
   rintro _ e _ ⟨rfl,u6,u7,u8,k9,rfl,h_10⟩;cases hF;simp only[simprocAttr,R0, *];exact qh (by simp only[simprocAttr,R0,qg,p443,Rs.ev,qd,frzs (α:=Int) cD,qR (α:=Int) cD,frzs (α:=aJ) aC,qR (α:=aJ) aC,frzs (α:=L1) lJ,qR (α:=L1) lJ, *])
  |false=>
   rw[if_neg wD]at hF;cases hF;simp only[simprocAttr,R0,b443, *];exact qh (by simp only[simprocAttr,R0,qg,p443,Rs.ev,qd, *])
 |false=>
  rw[if_neg wD]at hF;cases hF;simp only[simprocAttr,R0,b443, *];exact qh (by simp only[simprocAttr,R0,qg,p443,Rs.ev,qd, *])
def F444(a0:qc):Option Bool:=
 (F38 a0).bind fun x1=>
 some x1
theorem s444(a0:qc){r:Bool}(hF:F444 a0=some r):ans A 444 [(eF a0)]=some (enc r):=by
 refine qB (f:=p444) rfl rfl rfl fun e hl he=>?_;have aA:=he 0 _ rfl;have hl_0:e.length=5:=hl;clear he hl;show W A b444 e ⟨[],0⟩ _;unfold F444 at hF;obtain⟨x1,bD,hF⟩:=bS hF;have w2:=s38 a0 bD;cases hF;simp only[simprocAttr,R0,b444, *];exact qh (by simp only[simprocAttr,R0,qg,p444,Rs.ev,qd, *])
def F406(src:qo):Option (T2 qe qo):=
 (F415 src).bind fun x1=>
 (F421 x1.b x1.a).bind fun x3=>
 some ⟨x3.a,x3.b⟩
theorem s406(src:qo){r:T2 qe qo}(hF:F406 src=some r):xans A 406 (eS src) []=some ((eC r.a),(eS r.b)):=by
 refine jX (f:=p406) rfl rfl rfl fun e hl h0 he=>?_;have aA:e.at 0=V.ptr 0 0 0:=h0;have hl_0:e.length=7:=hl;clear h0 he hl;show W A b406 e ⟨[(0,some (eS src))],1⟩ _;unfold F406 at hF;obtain⟨x1,bD,hF⟩:=bS hF;have w2:xans A 415 (eS src) []=some ((eC x1.a),(eS x1.b)):=s415 src bD;obtain⟨x3,dN,hF⟩:=bS hF;have w4:xans A 421 (eS x1.b) [(eC x1.a)]=some ((eC x3.a),(eS x3.b)):=s421 x1.b x1.a dN;cases hF;simp only[simprocAttr,R0,b406,qj,qj, *];exact ze (by simp only[simprocAttr,R0,qg,p406,Rs.ev,qd,qj,qj, *])
def F445(a0:List U8):Option (T2 qe Int):=
 (F405 a0).bind fun x1=>
 (F406 x1).bind fun x3=>
 (F416 x3.b 7).bind fun x5=>
 some ⟨x3.a,x5.a⟩
theorem s445(a0:List U8){r:T2 qe Int}(hF:F445 a0=some r):ans A 445 [iL a0]=some (EncR.enc r):=by
 refine qB (f:=p445) rfl rfl rfl fun e hl he=>?_;have aA:=he 0 _ rfl;have hl_0:e.length=11:=hl;clear he hl;show W A b445 e ⟨[],0⟩ _;unfold F445 at hF;obtain⟨x1,bD,hF⟩:=bS hF;have w2:res A 405 [iL a0] ⟨[(0,some [iI 0,V.nils,V.nils])],1⟩=some (V.ptr 1 1 0,⟨[(0,some [iI 0,V.nils,V.nils]),(1,some (eS x1))],2⟩):=by
  obtain⟨_,w,rfl⟩:=d405 a0 bD [(0,some [iI 0,V.nils,V.nils])] 1;exact w
 obtain⟨x3,dN,hF⟩:=bS hF;have w4:xans A 406 (eS x1) []=some ((eC x3.a),(eS x3.b)):=s406 x1 dN;obtain⟨x5,dB,hF⟩:=bS hF;have w6:xans A 416 (eS x3.b) [iI 7]=some (iI x5.a,(eS x5.b)):=s416 x3.b 7 dB;cases hF;simp only[simprocAttr,R0,b445,qQ,qj,qj, *];exact qh (by simp only[simprocAttr,R0,qg,p445,Rs.ev,qd,qQ,qj,qj, *])
def F446(a0:List U8):Option qc:=
 (F405 a0).bind fun x1=>
 (F450 x1).bind fun x3=>
 some x3.a
theorem s446(a0:List U8){r:qc}(hF:F446 a0=some r):ans A 446 [iL a0]=some (enc r):=by
 refine qB (f:=p446) rfl rfl rfl fun e hl he=>?_;have aA:=he 0 _ rfl;have hl_0:e.length=6:=hl;clear he hl;show W A b446 e ⟨[],0⟩ _;unfold F446 at hF;obtain⟨x1,bD,hF⟩:=bS hF;have w2:res A 405 [iL a0] ⟨[(0,some [iI 0,V.nils,V.nils,V.nils])],1⟩=some (V.ptr 1 1 0,⟨[(0,some [iI 0,V.nils,V.nils,V.nils]),(1,some (eS x1))],2⟩):=by
  obtain⟨_,w,rfl⟩:=d405 a0 bD [(0,some [iI 0,V.nils,V.nils,V.nils])] 1;exact w
 obtain⟨x3,dN,hF⟩:=bS hF;have w4:xans A 450 (eS x1) []=some (eF x3.a,(eS x3.b)):=s450 x1 dN;cases hF;simp only[simprocAttr,R0,b446,qQ,qj, *];exact qh (by simp only[simprocAttr,R0,qg,p446,Rs.ev,qd,qQ,qj, *])
def F456_1_B(cV:Int)(cU:L1)(cT:L3)(cR:aJ)(cP:Int)(cO:L1)(cN:L3)(cI:aJ)(y6:Int)(eR:Int)(eO:L1)(eJ:L3)(mG:Int)(dF:Int)(dE:L1)(dD:L3)(dC:aJ)(bL:Int)(bK:L1)(bJ:L3)(bI:aJ)(fX:Int)(gZ:Int)(fN:T2 L1 Bool)(fY:T2 aJ Int)(cQ:Int)(s:Unit):Option ((Unit)⊕((Unit)⊕Bool)):=
 (getI fY.a cQ).bind fun d4=>
(getI d4 mG).bind fun a9=>
(getI fN.a cQ).bind fun kS=>
if a9=kS then
 (F150 d4).bind fun ln=>
 if ln=kS then
  some (.inl ())
 else
  some (.inr (.inr false))
else
 some (.inr (.inr false))
def F456_1_D(cV:Int)(cU:L1)(cT:L3)(cR:aJ)(cP:Int)(cO:L1)(cN:L3)(cI:aJ)(y6:Int)(eR:Int)(eO:L1)(eJ:L3)(mG:Int)(dF:Int)(dE:L1)(dD:L3)(dC:aJ)(bL:Int)(bK:L1)(bJ:L3)(bI:aJ)(fX:Int)(gZ:Int)(fN:T2 L1 Bool)(fY:T2 aJ Int)(cQ:Int)(s:Unit):Option ((Unit)⊕Bool):=
 some (.inl ())
def F456_93(cV:Int)(cU:L1)(cT:L3)(cR:aJ)(cP:Int)(cO:L1)(cN:L3)(cI:aJ)(y6:Int):Option Bool:=
 if y6=0 then
  (F41 ⟨⟨cP,cO,cN⟩,cI⟩).bind fun ip=>
  if ip=true then
   some (decide ((cI.length:Int)=(cR.length:Int)))
  else
   some false
 else
  some true
def F456_92(cV:Int)(cU:L1)(cT:L3)(cR:aJ)(cP:Int)(cO:L1)(cN:L3)(cI:aJ)(y6:Int)(bL:Int)(bK:L1)(bJ:L3)(bI:aJ)(fX:Int)(gZ:Int):Option Bool:=
 if gZ=0 then
  (F148 ⟨⟨bL,bK,bJ⟩,bI⟩ fX).bind fun a8=>
  (chk (fX+1)).bind fun iq=>
  (F148 ⟨⟨bL,bK,bJ⟩,bI⟩ iq).bind fun rF=>
  if 6 < fX then
   some false
  else
   if a8.b=0 then
    if rF.b=0 then
     (F160 a8.a rF.a).bind fun lm=>
     if lm=true then
      F456_93 cV cU cT cR cP cO cN cI y6
     else
      some false
    else
     some false
   else
    some false
 else
  F456_93 cV cU cT cR cP cO cN cI y6
def F456_91(cV:Int)(cU:L1)(cT:L3)(cR:aJ)(cP:Int)(cO:L1)(cN:L3)(cI:aJ)(y6:Int)(eR:Int)(eO:L1)(eJ:L3)(mG:Int)(dF:Int)(dE:L1)(dD:L3)(dC:aJ)(ad:Int)(bL:Int)(bK:L1)(bJ:L3)(bI:aJ)(fX:Int)(gZ:Int):Option Bool:=
 if ad=0 then
  (F440 ⟨eR,eO,eJ⟩).bind fun fN=>
  (F148 ⟨⟨dF,dE,dD⟩,dC⟩ 1).bind fun fY=>
  if fN.b=true then
   if fY.b=0 then
    if(fY.a.length:Int)=(fN.a.length:Int)then
     (forR 0 (fY.a.length:Int) (F456_1_B cV cU cT cR cP cO cN cI y6 eR eO eJ mG dF dE dD dC bL bK bJ bI fX gZ fN fY) (F456_1_D cV cU cT cR cP cO cN cI y6 eR eO eJ mG dF dE dD dC bL bK bJ bI fX gZ fN fY) ()).bind fun pc=> match pc with
      | .inl _=>
       F456_92 cV cU cT cR cP cO cN cI y6 bL bK bJ bI fX gZ
      | .inr r73=> some r73
    else
     some false
   else
    some false
  else
   some false
 else
  F456_92 cV cU cT cR cP cO cN cI y6 bL bK bJ bI fX gZ
def F456(a0:List U8):Option Bool:=
 (F140 a0).bind fun x1=>
 if x1=true then
  some true
 else
  (F441 a0).bind fun x3=>
  (F442 x3.a x3.b).bind fun x5=>
  (F443 x3.a x3.b).bind fun x7=>
  if x5.b=x7.b then
   (F146 x5.a x7.a).bind fun eD=>
   if eD=true then
    (F41 x3.a).bind fun kT=>
    (F444 x3.a).bind fun cW=>
    if(kT==cW)=true then
     (F445 a0).bind fun dO=>
     (F24 dO.a dO.b).bind fun fG=>
     (F23 dO.a dO.b).bind fun gY=>
     if fG.b=gY.b then
      (F146 fG.a gY.a).bind fun x24=>
      if x24=true then
       (F446 a0).bind fun fZ=>
       (F147 fZ).bind fun kM=>
       (F325 fZ).bind fun dZ=>
       if kM.b=dZ.b then
        if kM.a=dZ.a then
         F456_91 x3.a.C.P x3.a.C.D x3.a.C.M x3.a.L x5.a.C.P x5.a.C.D x5.a.C.M x5.a.L x5.b dO.a.P dO.a.D dO.a.M dO.b fG.a.C.P fG.a.C.D fG.a.C.M fG.a.L fG.b fZ.C.P fZ.C.D fZ.C.M fZ.L kM.a kM.b
        else
         some false
       else
        some false
      else
       some false
     else
      some false
    else
     some false
   else
    some false
  else
   some false
def I456_1(cV:Int)(cU:L1)(cT:L3)(cR:aJ)(cP:Int)(cO:L1)(cN:L3)(cI:aJ)(y6:Int)(eR:Int)(eO:L1)(eJ:L3)(mG:Int)(dF:Int)(dE:L1)(dD:L3)(dC:aJ)(bL:Int)(bK:L1)(bJ:L3)(bI:aJ)(fX:Int)(gZ:Int)(fN:T2 L1 Bool)(fY:T2 aJ Int)(r2 r5:nO)(cQ:Int)(s:Unit)(e:Env)(h:Heap):Prop:=
 ∃y5:Nat,h=⟨[(0,some [iI cV,iL cU,iL cT,iL cR]),(1,some [iI cP,iL cO,iL cN,iL cI]),r2,(3,some [iI eR,iL eO,iL eJ]),(4,some [iI dF,iL dE,iL dD,iL dC]),r5,(6,some [iI bL,iL bK,iL bJ,iL bI])],y5⟩∧e.length=211∧e.at 3=V.ptr 0 0 0∧e.at 5=V.ptr 1 1 0∧e.at 6=iI y6∧e.at 10=iI mG∧e.at 15=V.ptr 6 6 0∧e.at 16=iI fX∧e.at 17=iI gZ∧e.at 20=iL fN.a∧e.at 22=iL fY.a∧e.at 24=iI cQ
def P456_1(cV:Int)(cU:L1)(cT:L3)(cR:aJ)(cP:Int)(cO:L1)(cN:L3)(cI:aJ)(y6:Int)(eR:Int)(eO:L1)(eJ:L3)(mG:Int)(dF:Int)(dE:L1)(dD:L3)(dC:aJ)(bL:Int)(bK:L1)(bJ:L3)(bI:aJ)(fX:Int)(gZ:Int)(fN:T2 L1 Bool)(fY:T2 aJ Int)(r2 r5:nO)(t:(Unit)⊕Bool)(x:Ex)(e:Env)(h:Heap):Prop:=
 match t with
 | .inl _=> x= .normal∧∃y5:Nat,h=⟨[(0,some [iI cV,iL cU,iL cT,iL cR]),(1,some [iI cP,iL cO,iL cN,iL cI]),r2,(3,some [iI eR,iL eO,iL eJ]),(4,some [iI dF,iL dE,iL dD,iL dC]),r5,(6,some [iI bL,iL bK,iL bJ,iL bI])],y5⟩∧e.length=211∧e.at 3=V.ptr 0 0 0∧e.at 5=V.ptr 1 1 0∧e.at 6=iI y6∧e.at 15=V.ptr 6 6 0∧e.at 16=iI fX∧e.at 17=iI gZ
 | .inr r=> x= .ret∧Fin p456 (enc r) .ret e h
theorem l456_1(cV:Int)(cU:L1)(cT:L3)(cR:aJ)(cP:Int)(cO:L1)(cN:L3)(cI:aJ)(y6:Int)(eR:Int)(eO:L1)(eJ:L3)(mG:Int)(dF:Int)(dE:L1)(dD:L3)(dC:aJ)(bL:Int)(bK:L1)(bJ:L3)(bI:aJ)(fX:Int)(gZ:Int)(fN:T2 L1 Bool)(fY:T2 aJ Int)(r2 r5:nO){lo:Int}{s:Unit}{t:(Unit)⊕Bool}(hF:forR lo (fY.a.length:Int) (F456_1_B cV cU cT cR cP cO cN cI y6 eR eO eJ mG dF dE dD dC bL bK bJ bI fX gZ fN fY) (F456_1_D cV cU cT cR cP cO cN cI y6 eR eO eJ mG dF dE dD dC bL bK bJ bI fX gZ fN fY) s=some t){e:Env}{h:Heap}(hI:I456_1 cV cU cT cR cP cO cN cI y6 eR eO eJ mG dF dE dD dC bL bK bJ bI fX gZ fN fY r2 r5 lo s e h):W A c456_1 e h (P456_1 cV cU cT cR cP cO cN cI y6 eR eO eJ mG dF dE dD dC bL bK bJ bI fX gZ fN fY r2 r5 t):=by
 show W A (.block 0 (.loop false b456_1)) e h _;rw[qp];refine qF hF 7 (by obtain⟨_,rfl,_⟩:=hI; rfl) (I456_1 cV cU cT cR cP cO cN cI y6 eR eO eJ mG dF dE dD dC bL bK bJ bI fX gZ fN fY r2 r5) hI ?_ ?_
 ·rintro cQ _ e h ⟨y5,rfl,h_43⟩ hlt hw o ho
  unfold F456_1_B at ho;obtain⟨d4,n9,ho⟩:=bS ho;obtain⟨mz,my⟩:=qm n9;obtain⟨a9,n7,ho⟩:=bS ho;obtain⟨mw,mv⟩:=qm n7;obtain⟨kS,rW,ho⟩:=bS ho;obtain⟨mu,mr⟩:=qm rW;by_cases c52:a9=kS
  ·rw[if_pos c52]at ho
   obtain⟨ln,tm,ho⟩:=bS ho;have w54:=s150 d4 tm;by_cases c55:ln=kS
   ·rw[if_pos c55]at ho
    cases ho;simp only[simprocAttr,R0,b456_1, *];refine ai rfl (ei _ (ai rfl ?_));simp only[simprocAttr,R0, *]
   ·rw[if_neg c55]at ho
    cases ho;simp only[simprocAttr,R0,b456_1, *];intro ht; subst ht;simp only[simprocAttr,RR,RB];exact ai rfl (qh (by simp only[simprocAttr,R0,qg,p456,Rs.ev,qd, *]))
  ·rw[if_neg c52]at ho
   cases ho;simp only[simprocAttr,R0,b456_1, *];intro ht; subst ht;simp only[simprocAttr,RR,RB];exact ai rfl (qh (by simp only[simprocAttr,R0,qg,p456,Rs.ev,qd, *]))
 ·rintro cQ _ e h ⟨y5,rfl,h_43⟩ hge t1 ho
  unfold F456_1_D at ho;cases ho;simp only[simprocAttr,R0,b456_1, *];intro ht; subst ht;refine ai rfl (ei _ (ai rfl ?_));simp only[simprocAttr,R0, *]
theorem k456_3_7(r2 r3 r4 r5 r6:nO)(cV:Int)(cU:L1)(cT:L3)(cR:aJ)(cP:Int)(cO:L1)(cN:L3)(cI:aJ)(y6:Int){r:Bool}(hF:F456_93 cV cU cT cR cP cO cN cI y6=some r){ck:Nat}{e:Env}(hC:e.length=211∧e.at 3=V.ptr 0 0 0∧e.at 5=V.ptr 1 1 0∧e.at 6=iI y6):W A j456_3 e ⟨[(0,some [iI cV,iL cU,iL cT,iL cR]),(1,some [iI cP,iL cO,iL cN,iL cI]),r2,r3,r4,r5,r6],ck⟩ (Fin p456 (enc r)):=by
 obtain⟨hl_69,h3_69,h5_69,h6_69⟩:=hC;unfold F456_93 at hF;by_cases c70:y6=0
 ·rw[if_pos c70]at hF
  obtain⟨ip,tf,hF⟩:=bS hF;have w72:ans A 41 [V.agg [iI cP,iL cO,iL cN,iL cI]]=some (V.bool ip):=s41 ⟨⟨cP,cO,cN⟩,cI⟩ tf;cases ip with
  |true=>
   rw[if_pos rfl]at hF;have hE:=wA hF; subst hE;simp only[simprocAttr, -Int.reduceNatCast',R0,j456_3, *];exact qh (by simp only[simprocAttr, -Int.reduceNatCast',R0,qg,p456,Rs.ev,qd, *])
  |false=>
   rw[if_neg wD]at hF;have hE:=wA hF; subst hE;simp only[simprocAttr, -Int.reduceNatCast',R0,j456_3, *];exact qh (by simp only[simprocAttr, -Int.reduceNatCast',R0,qg,p456,Rs.ev,qd, *])
 ·rw[if_neg c70]at hF
  have hE:=wA hF; subst hE;simp only[simprocAttr, -Int.reduceNatCast',R0,j456_3, *];exact qh (by simp only[simprocAttr, -Int.reduceNatCast',R0,qg,p456,Rs.ev,qd, *])
theorem k456_2_7(r2 r3 r4 r5:nO)(cV:Int)(cU:L1)(cT:L3)(cR:aJ)(cP:Int)(cO:L1)(cN:L3)(cI:aJ)(y6:Int)(bL:Int)(bK:L1)(bJ:L3)(bI:aJ)(fX:Int)(gZ:Int){r:Bool}(hF:F456_92 cV cU cT cR cP cO cN cI y6 bL bK bJ bI fX gZ=some r){ck:Nat}{e:Env}(hC:e.length=211∧e.at 3=V.ptr 0 0 0∧e.at 5=V.ptr 1 1 0∧e.at 6=iI y6∧e.at 15=V.ptr 6 6 0∧e.at 16=iI fX∧e.at 17=iI gZ):W A j456_2 e ⟨[(0,some [iI cV,iL cU,iL cT,iL cR]),(1,some [iI cP,iL cO,iL cN,iL cI]),r2,r3,r4,r5,(6,some [iI bL,iL bK,iL bJ,iL bI])],ck⟩ (Fin p456 (enc r)):=by
 obtain⟨hl_57,h3_57,h5_57,h6_57,sj,sg,sc⟩:=hC;unfold F456_92 at hF;by_cases c58:gZ=0
 ·rw[if_pos c58]at hF
  obtain⟨a8,tl,hF⟩:=bS hF;have w60:ans A 148 [V.agg [iI bL,iL bK,iL bJ,iL bI],iI fX]=some (V.tup [iL a8.a,iI a8.b]):=s148 ⟨⟨bL,bK,bJ⟩,bI⟩ fX tl;obtain⟨iq,ti,hF⟩:=bS hF;have wx61:=qD ti;obtain⟨rF,n6,hF⟩:=bS hF;have w63:ans A 148 [V.agg [iI bL,iL bK,iL bJ,iL bI],iI iq]=some (V.tup [iL rF.a,iI rF.b]):=s148 ⟨⟨bL,bK,bJ⟩,bI⟩ iq n6;by_cases c64:6 < fX
  ·rw[if_pos c64]at hF
   have hE:=wA hF; subst hE;simp only[simprocAttr, -Int.reduceNatCast',R0,j456_2, *];exact qh (by simp only[simprocAttr, -Int.reduceNatCast',R0,qg,p456,Rs.ev,qd, *])
  ·rw[if_neg c64]at hF
   by_cases c65:a8.b=0
   ·rw[if_pos c65]at hF
    by_cases c66:rF.b=0
    ·rw[if_pos c66]at hF
     obtain⟨lm,tg,hF⟩:=bS hF;have w68:=s160 a8.a rF.a tg;cases lm with
     |true=>
      rw[if_pos rfl]at hF;simp only[simprocAttr, -Int.reduceNatCast',R0,j456_2, *];refine k456_3_7 _ _ _ _ _ cV cU cT cR cP cO cN cI y6 hF ?_;simp only[simprocAttr, -Int.reduceNatCast',R0, *]
     |false=>
      rw[if_neg wD]at hF;have hE:=wA hF; subst hE;simp only[simprocAttr, -Int.reduceNatCast',R0,j456_2, *];exact qh (by simp only[simprocAttr, -Int.reduceNatCast',R0,qg,p456,Rs.ev,qd, *])
    ·rw[if_neg c66]at hF
     have hE:=wA hF; subst hE;simp only[simprocAttr, -Int.reduceNatCast',R0,j456_2, *];exact qh (by simp only[simprocAttr, -Int.reduceNatCast',R0,qg,p456,Rs.ev,qd, *])
   ·rw[if_neg c65]at hF
    have hE:=wA hF; subst hE;simp only[simprocAttr, -Int.reduceNatCast',R0,j456_2, *];exact qh (by simp only[simprocAttr, -Int.reduceNatCast',R0,qg,p456,Rs.ev,qd, *])
 ·rw[if_neg c58]at hF
  simp only[simprocAttr, -Int.reduceNatCast',R0,j456_2, *];refine k456_3_7 _ _ _ _ _ cV cU cT cR cP cO cN cI y6 hF ?_;simp only[simprocAttr, -Int.reduceNatCast',R0, *]
theorem k456_1_7(r2 r5:nO)(cV:Int)(cU:L1)(cT:L3)(cR:aJ)(cP:Int)(cO:L1)(cN:L3)(cI:aJ)(y6:Int)(eR:Int)(eO:L1)(eJ:L3)(mG:Int)(dF:Int)(dE:L1)(dD:L3)(dC:aJ)(ad:Int)(bL:Int)(bK:L1)(bJ:L3)(bI:aJ)(fX:Int)(gZ:Int){r:Bool}(hF:F456_91 cV cU cT cR cP cO cN cI y6 eR eO eJ mG dF dE dD dC ad bL bK bJ bI fX gZ=some r){ck:Nat}{e:Env}(hC:e.length=211∧e.at 3=V.ptr 0 0 0∧e.at 5=V.ptr 1 1 0∧e.at 6=iI y6∧e.at 9=V.ptr 3 3 0∧e.at 10=iI mG∧e.at 11=V.ptr 4 4 0∧e.at 12=iI ad∧e.at 15=V.ptr 6 6 0∧e.at 16=iI fX∧e.at 17=iI gZ):W A j456_1 e ⟨[(0,some [iI cV,iL cU,iL cT,iL cR]),(1,some [iI cP,iL cO,iL cN,iL cI]),r2,(3,some [iI eR,iL eO,iL eJ]),(4,some [iI dF,iL dE,iL dD,iL dC]),r5,(6,some [iI bL,iL bK,iL bJ,iL bI])],ck⟩ (Fin p456 (enc r)):=by
 obtain⟨hl_34,h3_34,h5_34,h6_34,h9_34,sw,sv,su,sr,si,se⟩:=hC;unfold F456_91 at hF;by_cases c35:ad=0
 ·rw[if_pos c35]at hF
  obtain⟨fN,oK,hF⟩:=bS hF;have w37:ans A 440 [V.agg [iI eR,iL eO,iL eJ]]=some (V.tup [iL fN.a,V.bool fN.b]):=s440 ⟨eR,eO,eJ⟩ oK;obtain⟨fY,rZ,hF⟩:=bS hF;have w39:ans A 148 [V.agg [iI dF,iL dE,iL dD,iL dC],iI 1]=some (V.tup [iL fY.a,iI fY.b]):=s148 ⟨⟨dF,dE,dD⟩,dC⟩ 1 rZ;by_cases c40:fN.b=true
  ·rw[if_pos c40]at hF
   by_cases c41:fY.b=0
   ·rw[if_pos c41]at hF
    by_cases c42:(fY.a.length:Int)=(fN.a.length:Int)
    ·rw[if_pos c42]at hF
     obtain⟨pc,fh,hF⟩:=bS hF;rcases pc with _|r73
     ·dsimp only at hF
      simp only[simprocAttr, -Int.reduceNatCast',R0,j456_1, *];refine W.mono (l456_1 cV cU cT cR cP cO cN cI y6 eR eO eJ mG dF dE dD dC bL bK bJ bI fX gZ fN fY r2 r5 fh (ei _ (ai rfl ?_))) ?_
      ·simp only[simprocAttr, -Int.reduceNatCast',R0, *]
      rintro _ e _ ⟨rfl,y5,rfl,hl_45,h3_45,h5_45,h6_45,sn,sh,sd⟩;simp only[simprocAttr, -Int.reduceNatCast',R0, *];refine k456_2_7 _ _ _ _ cV cU cT cR cP cO cN cI y6 bL bK bJ bI fX gZ hF ?_;simp only[simprocAttr, -Int.reduceNatCast',R0, *]
     ·dsimp only at hF
      have hE:=wA hF; subst hE;simp only[simprocAttr, -Int.reduceNatCast',R0,j456_1, *];refine W.mono (l456_1 cV cU cT cR cP cO cN cI y6 eR eO eJ mG dF dE dD dC bL bK bJ bI fX gZ fN fY r2 r5 fh (ei _ (ai rfl ?_))) ?_
      ·simp only[simprocAttr, -Int.reduceNatCast',R0, *]
      rintro _ e h ⟨rfl,hq⟩;simp only[simprocAttr, -Int.reduceNatCast',RR,RB];exact hq
    ·rw[if_neg c42]at hF
     have hE:=wA hF; subst hE;simp only[simprocAttr, -Int.reduceNatCast',R0,j456_1, *];exact qh (by simp only[simprocAttr, -Int.reduceNatCast',R0,qg,p456,Rs.ev,qd, *])
   ·rw[if_neg c41]at hF
    have hE:=wA hF; subst hE;simp only[simprocAttr, -Int.reduceNatCast',R0,j456_1, *];exact qh (by simp only[simprocAttr, -Int.reduceNatCast',R0,qg,p456,Rs.ev,qd, *])
  ·rw[if_neg c40]at hF
   have hE:=wA hF; subst hE;simp only[simprocAttr, -Int.reduceNatCast',R0,j456_1,Bool.eq_false_iff.2 c40, *];exact qh (by simp only[simprocAttr, -Int.reduceNatCast',R0,qg,p456,Rs.ev,qd,Bool.eq_false_iff.2 c40, *])
 ·rw[if_neg c35]at hF
  simp only[simprocAttr, -Int.reduceNatCast',R0,j456_1, *];refine k456_2_7 _ _ _ _ cV cU cT cR cP cO cN cI y6 bL bK bJ bI fX gZ hF ?_;simp only[simprocAttr, -Int.reduceNatCast',R0, *]
set_option maxHeartbeats 8000000 in
theorem s456(a0:List U8){r:Bool}(hF:F456 a0=some r):ans A 456 [iL a0]=some (enc r):=by
 refine qB (f:=p456) rfl rfl rfl fun e hl he=>?_;have aA:=he 0 _ rfl;have hl_0:e.length=211:=hl;clear he hl;have h_0:=ai hl_0 aA;show W A b456 e ⟨[],0⟩ _;unfold F456 at hF;obtain⟨x1,bD,hF⟩:=bS hF;have w2:ans A 140 [iL a0]=some (V.bool x1):=s140 a0 bD;cases x1 with
 |true=>
  rw[if_pos rfl]at hF;cases hF;simp only[simprocAttr,R0,b456, *];exact qh (by simp only[simprocAttr,R0,qg,p456,Rs.ev,qd, *])
 |false=>
  rw[if_neg wD]at hF;obtain⟨x3,dN,hF⟩:=bS hF;have w4:ans A 441 [iL a0]=some (V.tup [eF x3.a,iI x3.b]):=s441 a0 dN;obtain⟨x5,dB,hF⟩:=bS hF;have w6:ans A 442 [eF x3.a,iI x3.b]=some (V.tup [eF x5.a,iI x5.b]):=s442 x3.a x3.b dB;obtain⟨x7,dQ,hF⟩:=bS hF;have w8:ans A 443 [eF x3.a,iI x3.b]=some (V.tup [eF x7.a,iI x7.b]):=s443 x3.a x3.b dQ;by_cases c9:x5.b=x7.b
  ·rw[if_pos c9]at hF
   obtain⟨eD,eT,hF⟩:=bS hF;have sH:ans A 146 [eF x5.a,eF x7.a]=some (V.bool eD):=s146 x5.a x7.a eT;cases eD with
   |true=>
    rw[if_pos rfl]at hF;obtain⟨kT,kX,hF⟩:=bS hF;have lc:ans A 41 [eF x3.a]=some (V.bool kT):=s41 x3.a kX;obtain⟨cW,dY,hF⟩:=bS hF;have rA:ans A 444 [eF x3.a]=some (V.bool cW):=s444 x3.a dY;by_cases q8:(kT==cW)=true
    ·rw[if_pos q8]at hF
     obtain⟨dO,fI,hF⟩:=bS hF;have pZ:ans A 445 [iL a0]=some (V.tup [(eC dO.a),iI dO.b]):=s445 a0 fI;obtain⟨fG,iT,hF⟩:=bS hF;have iw:ans A 24 [(eC dO.a),iI dO.b]=some (V.tup [eF fG.a,iI fG.b]):=s24 dO.a dO.b iT;obtain⟨gY,iR,hF⟩:=bS hF;have e9:ans A 23 [(eC dO.a),iI dO.b]=some (V.tup [eF gY.a,iI gY.b]):=s23 dO.a dO.b iR;by_cases uY:fG.b=gY.b
     ·rw[if_pos uY]at hF
      obtain⟨x24,lP,hF⟩:=bS hF;have w25:ans A 146 [eF fG.a,eF gY.a]=some (V.bool x24):=s146 fG.a gY.a lP;cases x24 with
      |true=>
       rw[if_pos rfl]at hF;obtain⟨fZ,mU,hF⟩:=bS hF;have w27:ans A 446 [iL a0]=some ((eF fZ)):=s446 a0 mU;obtain⟨kM,oV,hF⟩:=bS hF;have w29:ans A 147 [(eF fZ)]=some (V.tup [iI kM.a,iI kM.b]):=s147 fZ oV;obtain⟨dZ,nL,hF⟩:=bS hF;have aw:ans A 325 [(eF fZ)]=some (V.tup [iI dZ.a,iI dZ.b]):=s325 fZ nL;by_cases c32:kM.b=dZ.b
       ·rw[if_pos c32]at hF
        by_cases c33:kM.a=dZ.a
        ·rw[if_pos c33]at hF
         simp only[simprocAttr,R0,b456, *];refine k456_1_7 _ _ x3.a.C.P x3.a.C.D x3.a.C.M x3.a.L x5.a.C.P x5.a.C.D x5.a.C.M x5.a.L x5.b dO.a.P dO.a.D dO.a.M dO.b fG.a.C.P fG.a.C.D fG.a.C.M fG.a.L fG.b fZ.C.P fZ.C.D fZ.C.M fZ.L kM.a kM.b hF ?_;simp only[simprocAttr,R0, *]
        ·rw[if_neg c33]at hF
         cases hF;simp only[simprocAttr,R0,b456, *];exact qh (by simp only[simprocAttr,R0,qg,p456,Rs.ev,qd, *])
       ·rw[if_neg c32]at hF
        cases hF;simp only[simprocAttr,R0,b456, *];exact qh (by simp only[simprocAttr,R0,qg,p456,Rs.ev,qd, *])
      |false=>
       rw[if_neg wD]at hF;cases hF;simp only[simprocAttr,R0,b456, *];exact qh (by simp only[simprocAttr,R0,qg,p456,Rs.ev,qd, *])
     ·rw[if_neg uY]at hF
      cases hF;simp only[simprocAttr,R0,b456, *];exact qh (by simp only[simprocAttr,R0,qg,p456,Rs.ev,qd, *])
    ·rw[if_neg q8]at hF
     cases hF;simp only[simprocAttr,R0,b456,Bool.eq_false_iff.2 q8, *];exact qh (by simp only[simprocAttr,R0,qg,p456,Rs.ev,qd,Bool.eq_false_iff.2 q8, *])
   |false=>
    rw[if_neg wD]at hF;cases hF;simp only[simprocAttr,R0,b456, *];exact qh (by simp only[simprocAttr,R0,qg,p456,Rs.ev,qd, *])
  ·rw[if_neg c9]at hF
   cases hF;simp only[simprocAttr,R0,b456, *];exact qh (by simp only[simprocAttr,R0,qg,p456,Rs.ev,qd, *])
end
end Rv
