/- What the abstract code answers: typed functions, part 3. -/
import Derived.Test.YtoejjfefmcbkpaaGreatHms1
namespace Rv
open Enc (enc)
set_option linter.unusedVariables false
set_option linter.unusedSimpArgs false
set_option maxRecDepth 100000
noncomputable section
def F491_1_B(a0:qa)(a1:qa)(a2:L3)(a3:Int)(x1:L2)(x3:L2)(dR:Int)(aK:L2):Option ((L2)⊕(L2)):=
 (getI x1 dR).bind fun bA=>
(F304 a0 a1 a2 a3 0 bA).bind fun bD=>
(app 24 aK [bD]).bind fun rJ=>
some (.inl rJ)
def F491_1_D(a0:qa)(a1:qa)(a2:L3)(a3:Int)(x1:L2)(x3:L2)(dR:Int)(aK:L2):Option (L2):=
 some aK
def F491(a0:qa)(a1:qa)(a2:L3)(a3:Int):Option Int:=
 (F98 a0 a3).bind fun x1=>
 (F251 a1 a3).bind fun x3=>
 (app 24 ([]:L2) x3).bind fun l6=>
 (forR 0 (x1.length:Int) (F491_1_B a0 a1 a2 a3 x1 x3) (F491_1_D a0 a1 a2 a3 x1 x3) l6).bind fun aS=>
 (F131 a0.P aS).bind fun eM=>
 (chk ((eM.length:Int) - (x3.length:Int))).bind fun dN=>
 some dN
def I491_1(a0:qa)(a1:qa)(a2:L3)(a3:Int)(x1:L2)(x3:L2)(dR:Int)(aK:L2)(e:Env)(h:Heap):Prop:=
 ∃u8 k9:Nat,h=⟨[(0,none),(0,none),(u8,some (aK.map enc))],k9⟩∧e.length=48∧e.at 2=iL a2∧e.at 3=iI a3∧e.at 4=eP a0∧e.at 5=eP a1∧e.at 9=iL x1∧e.at 10=iL x3∧e.at 11=V.sl 2 u8 0 aK.length 1∧e.at 12=iI dR
def P491_1(a0:qa)(a1:qa)(a2:L3)(a3:Int)(x1:L2)(x3:L2)(aS:L2)(x:Ex)(e:Env)(h:Heap):Prop:=
 x= .normal∧∃u8 k9:Nat,h=⟨[(0,none),(0,none),(u8,some (aS.map enc))],k9⟩∧e.length=48∧e.at 4=eP a0∧e.at 10=iL x3∧e.at 11=V.sl 2 u8 0 aS.length 1
theorem l491_1(a0:qa)(a1:qa)(a2:L3)(a3:Int)(x1:L2)(x3:L2){lo:Int}{s:L2}{t:L2}(hF:forR lo (x1.length:Int) (F491_1_B a0 a1 a2 a3 x1 x3) (F491_1_D a0 a1 a2 a3 x1 x3) s=some t){e:Env}{h:Heap}(hI:I491_1 a0 a1 a2 a3 x1 x3 lo s e h):W A c491_1 e h (P491_1 a0 a1 a2 a3 x1 x3 t):=by
 show W A (.block 0 (.loop false b491_1)) e h _;rw[qj];refine qz hF 3 (by obtain⟨_,_,rfl,_⟩:=hI; rfl) (I491_1 a0 a1 a2 a3 x1 x3) hI ?_ ?_
 ·rintro dR aK e h ⟨u8,k9,rfl,h_7⟩ hlt hw o ho
  unfold F491_1_B at ho;obtain⟨bA,cM,ho⟩:=bS ho;obtain⟨fY,fX⟩:=qg cM;obtain⟨bD,cD,ho⟩:=bS ho;have mT:=s304 a0 a1 a2 a3 0 bA cD;obtain⟨rJ,oV,ho⟩:=bS ho;have g8:=fun a b c d e=> qF (α:=L1) (n:=aK.length) (m:=1) (ds:=[iL bD]) oV (by first|rfl|simp) (by first|rfl|simp) rfl a b c d e;have kj:=qZ oV;cases ho;simp only[simprocAttr,R0,b491_1, *];refine ai rfl (ei _ (ei _ (ai rfl ?_)));simp only[simprocAttr,R0, *]
 ·rintro dR aK e h ⟨u8,k9,rfl,h_7⟩ hge t1 ho
  unfold F491_1_D at ho;cases ho;simp only[simprocAttr,R0,b491_1, *];intro ht; subst ht;refine ai rfl (ei _ (ei _ (ai rfl ?_)));simp only[simprocAttr,R0, *]
theorem s491(a0:qa)(a1:qa)(a2:L3)(a3:Int){r:Int}(hF:F491 a0 a1 a2 a3=some r):ans A 491 [(eC a0),(eC a1),iL a2,iI a3]=some (enc r):=by
 refine qv (f:=p491) rfl rfl rfl fun e hl he=>?_;have aA:=he 0 _ rfl;have aB:=he 1 _ rfl;have aN:=he 2 _ rfl;have bR:=he 3 _ rfl;have hl_0:e.length=48:=hl;clear he hl;show W A b491 e ⟨[],0⟩ _;unfold F491 at hF;obtain⟨x1,bI,hF⟩:=bS hF;have w2:=s98 a0 a3 bI;obtain⟨x3,dO,hF⟩:=bS hF;have w4:=s251 a1 a3 dO;obtain⟨l6,gl6,hF⟩:=bS hF;have w5:=fun a b c d e=> qF (α:=L1) (n:=0) (m:=x3.length) (ds:=List.map enc x3) gl6 (by first|rfl|simp) (by first|rfl|simp) rfl a b c d e;have w5l:=qZ gl6;obtain⟨aS,lA,hF⟩:=bS hF;simp only[simprocAttr,R0,b491, *];refine W.mono (l491_1 a0 a1 a2 a3 x1 x3 lA (ei _ (ei _ (ai rfl ?_)))) ?_
 ·simp only[simprocAttr,R0, *]
 rintro _ e _ ⟨rfl,u8,k9,rfl,h_10⟩;obtain⟨eM,eE,hF⟩:=bS hF;have e9:=s131 a0.P aS eE;obtain⟨dN,eT,hF⟩:=bS hF;have sB:=qu eT;cases hF;simp only[simprocAttr,R0,qM (α:=L1) aS, *];exact qc (by simp only[simprocAttr,R0,qe,p491,Rs.ev,qb,qM (α:=L1) aS, *])
def F462_1_B(a0:qa)(a1:qa)(a2:L3)(a3:L3)(x4:L3)(dR:Int)(s:Unit):Option ((Unit)⊕((Unit)⊕(T2 Bool Int))):=
 (F491 a0 a1 x4 dR).bind fun x9=>
if 0 < x9 then
 some (.inr (.inr ⟨false,0⟩))
else
 some (.inl ())
def F462_1_D(a0:qa)(a1:qa)(a2:L3)(a3:L3)(x4:L3)(dR:Int)(s:Unit):Option ((Unit)⊕(T2 Bool Int)):=
 some (.inl ())
def F462(a0:qa)(a1:qa)(a2:L3)(a3:L3):Option (T2 Bool Int):=
 (F242 a0 a1 [a2,a3]).bind fun x1=>
 if x1=0 then
  (F490 a0.P a2 a3 (-1)).bind fun x4=>
  (forR 0 (a2.length:Int) (F462_1_B a0 a1 a2 a3 x4) (F462_1_D a0 a1 a2 a3 x4) ()).bind fun lk=> match lk with
   | .inl _=>
    some ⟨true,0⟩
   | .inr r13=> some r13
 else
  some ⟨false,x1⟩
def I462_1(a0:qa)(a1:qa)(a2:L3)(a3:L3)(x4:L3)(dR:Int)(s:Unit)(e:Env)(h:Heap):Prop:=
 ∃k7:Nat,h=⟨[(0,none),(0,none),(2,some [iL a2,iL a3])],k7⟩∧e.length=39∧e.at 2=iL a2∧e.at 4=eP a0∧e.at 5=eP a1∧e.at 11=iL x4∧e.at 12=iI dR
def P462_1(a0:qa)(a1:qa)(a2:L3)(a3:L3)(x4:L3)(t:(Unit)⊕(T2 Bool Int))(x:Ex)(e:Env)(h:Heap):Prop:=
 match t with
 | .inl _=> x= .normal∧∃k7:Nat,h=⟨[(0,none),(0,none),(2,some [iL a2,iL a3])],k7⟩∧e.length=39
 | .inr r=> x= .ret∧Fin p462 (EncR.enc r) .ret e h
theorem l462_1(a0:qa)(a1:qa)(a2:L3)(a3:L3)(x4:L3){lo:Int}{s:Unit}{t:(Unit)⊕(T2 Bool Int)}(hF:forR lo (a2.length:Int) (F462_1_B a0 a1 a2 a3 x4) (F462_1_D a0 a1 a2 a3 x4) s=some t){e:Env}{h:Heap}(hI:I462_1 a0 a1 a2 a3 x4 lo s e h):W A c462_1 e h (P462_1 a0 a1 a2 a3 x4 t):=by
 show W A (.block 0 (.loop false b462_1)) e h _;rw[qj];refine qz hF 3 (by obtain⟨_,rfl,_⟩:=hI; rfl) (I462_1 a0 a1 a2 a3 x4) hI ?_ ?_
 ·rintro dR _ e h ⟨k7,rfl,h_6⟩ hlt hw o ho
  unfold F462_1_B at ho;obtain⟨x9,eJ,ho⟩:=bS ho;have pC:=s491 a0 a1 x4 dR eJ;by_cases c11:0 < x9
  ·rw[if_pos c11]at ho
   cases ho;simp only[simprocAttr,R0,b462_1, *];intro ht; subst ht;simp only[simprocAttr,RR,RB];exact ai rfl (qc (by simp only[simprocAttr,R0,qe,p462,Rs.ev,qb, *]))
  ·rw[if_neg c11]at ho
   cases ho;simp only[simprocAttr,R0,b462_1, *];refine ai rfl (ei _ (ai rfl ?_));simp only[simprocAttr,R0, *]
 ·rintro dR _ e h ⟨k7,rfl,h_6⟩ hge t1 ho
  unfold F462_1_D at ho;cases ho;simp only[simprocAttr,R0,b462_1, *];intro ht; subst ht;refine ai rfl (ei _ (ai rfl ?_));simp only[simprocAttr,R0, *]
theorem s462(a0:qa)(a1:qa)(a2:L3)(a3:L3){r:T2 Bool Int}(hF:F462 a0 a1 a2 a3=some r):ans A 462 [(eC a0),(eC a1),iL a2,iL a3]=some (EncR.enc r):=by
 refine qv (f:=p462) rfl rfl rfl fun e hl he=>?_;have aA:=he 0 _ rfl;have aB:=he 1 _ rfl;have aN:=he 2 _ rfl;have bR:=he 3 _ rfl;have hl_0:e.length=39:=hl;clear he hl;have h_0:=ai hl_0 (ai aA (ai aB (ai aN bR)));show W A b462 e ⟨[],0⟩ _;unfold F462 at hF;obtain⟨x1,bI,hF⟩:=bS hF;have w2:ans A 242 [(eC a0),(eC a1),V.isl [iL a2,iL a3]]=some (iI x1):=s242 a0 a1 [a2,a3] bI;by_cases c3:x1=0
 ·rw[if_pos c3]at hF
  obtain⟨x4,dK,hF⟩:=bS hF;have w5:ans A 490 [iI a0.P,iL a2,iL a3,iI (-1)]=some (iL x4):=s490 a0.P a2 a3 (-1) dK;obtain⟨lk,bp,hF⟩:=bS hF;rcases lk with _|r13
  ·dsimp only at hF
   simp only[simprocAttr,R0,b462, *];refine W.mono (l462_1 a0 a1 a2 a3 x4 bp (ei _ (ai rfl ?_))) ?_
   ·simp only[simprocAttr,R0, *]
   rintro _ e _ ⟨rfl,k7,rfl,hl_8⟩;cases hF;simp only[simprocAttr,R0, *];exact qc (by simp only[simprocAttr,R0,qe,p462,Rs.ev,qb, *])
  ·dsimp only at hF
   cases hF;simp only[simprocAttr,R0,b462, *];refine W.mono (l462_1 a0 a1 a2 a3 x4 bp (ei _ (ai rfl ?_))) ?_
   ·simp only[simprocAttr,R0, *]
   rintro _ e h ⟨rfl,hq⟩;simp only[simprocAttr,RR,RB];exact hq
 ·rw[if_neg c3]at hF
  cases hF;simp only[simprocAttr,R0,b462, *];exact qc (by simp only[simprocAttr,R0,qe,p462,Rs.ev,qb, *])
def F492_1_B(a0:qa)(a1:qa)(a2:L3)(a3:Int)(x1:L2)(x3:L2)(cP:Int)(aK:L2):Option ((L2)⊕(L2)):=
 (getI x3 cP).bind fun x9=>
(F309 a0 a1 a2 0 a3 x9).bind fun bA=>
(app 24 aK [bA]).bind fun fC=>
some (.inl fC)
def F492_1_D(a0:qa)(a1:qa)(a2:L3)(a3:Int)(x1:L2)(x3:L2)(cP:Int)(aK:L2):Option (L2):=
 some aK
def F492(a0:qa)(a1:qa)(a2:L3)(a3:Int):Option Int:=
 (F186 a1 a3).bind fun x1=>
 (F100 a0 a3).bind fun x3=>
 (forR 0 (x3.length:Int) (F492_1_B a0 a1 a2 a3 x1 x3) (F492_1_D a0 a1 a2 a3 x1 x3) x1).bind fun aS=>
 (F133 a0.P aS).bind fun cC=>
 (chk ((cC.length:Int) - ((x1.length:Nat):Int))).bind fun eM=>
 some eM
def I492_1(a0:qa)(a1:qa)(a2:L3)(a3:Int)(x1:L2)(x3:L2)(cP:Int)(aK:L2)(e:Env)(h:Heap):Prop:=
 ∃u6 k7:Nat,h=⟨[(0,none),(0,none),(u6,some (aK.map enc))],k7⟩∧e.length=43∧e.at 2=iL a2∧e.at 3=iI a3∧e.at 4=eP a0∧e.at 5=eP a1∧e.at 9=V.sl 2 u6 0 aK.length 1∧e.at 10=iI ((x1.length:Nat):Int)∧e.at 20=iL x3∧e.at 21=iI (x3.length:Int)∧e.at 22=iI cP
def P492_1(a0:qa)(a1:qa)(a2:L3)(a3:Int)(x1:L2)(x3:L2)(aS:L2)(x:Ex)(e:Env)(h:Heap):Prop:=
 x= .normal∧∃u6 k7:Nat,h=⟨[(0,none),(0,none),(u6,some (aS.map enc))],k7⟩∧e.length=43∧e.at 4=eP a0∧e.at 9=V.sl 2 u6 0 aS.length 1∧e.at 10=iI ((x1.length:Nat):Int)
theorem l492_1(a0:qa)(a1:qa)(a2:L3)(a3:Int)(x1:L2)(x3:L2){lo:Int}{s:L2}{t:L2}(hF:forR lo (x3.length:Int) (F492_1_B a0 a1 a2 a3 x1 x3) (F492_1_D a0 a1 a2 a3 x1 x3) s=some t){e:Env}{h:Heap}(hI:I492_1 a0 a1 a2 a3 x1 x3 lo s e h):W A c492_1 e h (P492_1 a0 a1 a2 a3 x1 x3 t):=by
 show W A (.block 0 (.loop false b492_1)) e h _;rw[qj];refine qz hF 3 (by obtain⟨_,_,rfl,_⟩:=hI; rfl) (I492_1 a0 a1 a2 a3 x1 x3) hI ?_ ?_
 ·rintro cP aK e h ⟨u6,k7,rfl,h_5⟩ hlt hw o ho
  unfold F492_1_B at ho;obtain⟨x9,eJ,ho⟩:=bS ho;obtain⟨iZ,iK⟩:=qg eJ;obtain⟨bA,cM,ho⟩:=bS ho;have pB:=s309 a0 a1 a2 0 a3 x9 cM;obtain⟨fC,mB,ho⟩:=bS ho;have de:=fun a b c d e=> qF (α:=L1) (n:=aK.length) (m:=1) (ds:=[iL bA]) mB (by first|rfl|simp) (by first|rfl|simp) rfl a b c d e;have km:=qZ mB;cases ho;simp only[simprocAttr,R0,b492_1, *];refine ai rfl (ei _ (ei _ (ai rfl ?_)));simp only[simprocAttr,R0, *]
 ·rintro cP aK e h ⟨u6,k7,rfl,h_5⟩ hge t1 ho
  unfold F492_1_D at ho;cases ho;simp only[simprocAttr,R0,b492_1, *];intro ht; subst ht;refine ai rfl (ei _ (ei _ (ai rfl ?_)));simp only[simprocAttr,R0, *]
theorem s492(a0:qa)(a1:qa)(a2:L3)(a3:Int){r:Int}(hF:F492 a0 a1 a2 a3=some r):ans A 492 [(eC a0),(eC a1),iL a2,iI a3]=some (enc r):=by
 refine qv (f:=p492) rfl rfl rfl fun e hl he=>?_;have aA:=he 0 _ rfl;have aB:=he 1 _ rfl;have aN:=he 2 _ rfl;have bR:=he 3 _ rfl;have hl_0:e.length=43:=hl;clear he hl;show W A b492 e ⟨[],0⟩ _;unfold F492 at hF;obtain⟨x1,bI,hF⟩:=bS hF;have w2:tans A 186 [1] [(eC a1),iI a3]=some (iL x1):=t186 a1 a3 bI;have w2t:=qX (α:=L1) x1;obtain⟨x3,dO,hF⟩:=bS hF;have w4:=s100 a0 a3 dO;obtain⟨aS,uR,hF⟩:=bS hF;simp only[simprocAttr,R0,b492, *];refine W.mono (l492_1 a0 a1 a2 a3 x1 x3 uR (ei _ (ei _ (ai rfl ?_)))) ?_
 ·simp only[simprocAttr,R0, *]
 rintro _ e _ ⟨rfl,u6,k7,rfl,h_8⟩;obtain⟨cC,dM,hF⟩:=bS hF;have rE:=s133 a0.P aS dM;obtain⟨eM,eE,hF⟩:=bS hF;have m7:=qu eE;cases hF;simp only[simprocAttr,R0,qM (α:=L1) aS, *];exact qc (by simp only[simprocAttr,R0,qe,p492,Rs.ev,qb,qM (α:=L1) aS, *])
def F463(a0:qa)(a1:qa)(a2:L3)(a3:Int):Option (T2 Int Int):=
 (F274 a0 a1 [a2]).bind fun x1=>
 if x1=0 then
  (F86 a0).bind fun x4=>
  (F56 a3 0 x4).bind fun x6=>
  if x6=true then
   (F308 a0 a1 a2).bind fun x8=>
   if x8=true then
    (F492 a0 a1 a2 a3).bind fun dI=>
    some ⟨dI,0⟩
   else
    some ⟨0,5⟩
  else
   some ⟨0,2⟩
 else
  some ⟨0,x1⟩
theorem s463(a0:qa)(a1:qa)(a2:L3)(a3:Int){r:T2 Int Int}(hF:F463 a0 a1 a2 a3=some r):ans A 463 [(eC a0),(eC a1),iL a2,iI a3]=some (EncR.enc r):=by
 refine qv (f:=p463) rfl rfl rfl fun e hl he=>?_;have aA:=he 0 _ rfl;have aB:=he 1 _ rfl;have aN:=he 2 _ rfl;have bR:=he 3 _ rfl;have hl_0:e.length=42:=hl;clear he hl;have h_0:=ai hl_0 (ai aA (ai aB (ai aN bR)));show W A b463 e ⟨[],0⟩ _;unfold F463 at hF;obtain⟨x1,bI,hF⟩:=bS hF;have w2:ans A 274 [(eC a0),(eC a1),V.isl [iL a2]]=some (iI x1):=s274 a0 a1 [a2] bI;by_cases c3:x1=0
 ·rw[if_pos c3]at hF
  obtain⟨x4,dK,hF⟩:=bS hF;have w5:ans A 86 [(eC a0)]=some (iI x4):=s86 a0 dK;obtain⟨x6,fH,hF⟩:=bS hF;have w7:ans A 56 [iI a3,iI 0,iI x4]=some (V.bool x6):=s56 a3 0 x4 fH;cases x6 with
  |true=>
   rw[if_pos rfl]at hF;obtain⟨x8,kC,hF⟩:=bS hF;have w9:ans A 308 [(eC a0),(eC a1),iL a2]=some (V.bool x8):=s308 a0 a1 a2 kC;cases x8 with
   |true=>
    rw[if_pos rfl]at hF;obtain⟨dI,dY,hF⟩:=bS hF;have pP:ans A 492 [(eC a0),(eC a1),iL a2,iI a3]=some (iI dI):=s492 a0 a1 a2 a3 dY;cases hF;simp only[simprocAttr,R0,b463, *];exact qc (by simp only[simprocAttr,R0,qe,p463,Rs.ev,qb, *])
   |false=>
    rw[if_neg wD]at hF;cases hF;simp only[simprocAttr,R0,b463, *];exact qc (by simp only[simprocAttr,R0,qe,p463,Rs.ev,qb, *])
  |false=>
   rw[if_neg wD]at hF;cases hF;simp only[simprocAttr,R0,b463, *];exact qc (by simp only[simprocAttr,R0,qe,p463,Rs.ev,qb, *])
 ·rw[if_neg c3]at hF
  cases hF;simp only[simprocAttr,R0,b463, *];exact qc (by simp only[simprocAttr,R0,qe,p463,Rs.ev,qb, *])
def F502_1_B(aZ:Int)(aT:L1)(aY:L3)(aX:Int)(aW:L1)(aV:L3)(fA:L3)(eZ:L3)(cP:Int)(s:Unit):Option ((Unit)⊕((Unit)⊕Bool)):=
 (F463 ⟨aZ,aT,aY⟩ ⟨aX,aW,aV⟩ fA cP).bind fun cW=>
(F463 ⟨aZ,aT,aY⟩ ⟨aX,aW,aV⟩ eZ cP).bind fun iT=>
if cW.b=0 then
 if iT.b=0 then
  if cW.a=iT.a then
   some (.inl ())
  else
   some (.inr (.inr false))
 else
  some (.inr (.inr false))
else
 some (.inr (.inr false))
def F502_1_D(aZ:Int)(aT:L1)(aY:L3)(aX:Int)(aW:L1)(aV:L3)(fA:L3)(eZ:L3)(cP:Int)(s:Unit):Option ((Unit)⊕Bool):=
 some (.inl ())
def F502_92(aZ:Int)(aT:L1)(aY:L3)(aX:Int)(aW:L1)(aV:L3)(fA:L3)(eZ:L3)(lI:Bool)(lH:Int):Option Bool:=
 if lH=0 then
  if lI=true then
   (forR 0 (aT.length:Int) (F502_1_B aZ aT aY aX aW aV fA eZ) (F502_1_D aZ aT aY aX aW aV fA eZ) ()).bind fun kx=> match kx with
    | .inl _=>
     some true
    | .inr v7=> some v7
  else
   some true
 else
  some true
def F502_91(mO:Int)(mM:L1)(mL:L3)(mK:Int)(mJ:L1)(mI:L3)(y5:L3)(y6:L3)(y8:Bool)(y9:Int)(aZ:Int)(aT:L1)(aY:L3)(aX:Int)(aW:L1)(aV:L3)(fA:L3)(eZ:L3)(lI:Bool)(lH:Int):Option Bool:=
 if y9=0 then
  if y8=true then
   (F461 ⟨mO,mM,mL⟩ ⟨mK,mJ,mI⟩ y5 y6).bind fun dA=>
   if dA.b=0 then
    if dA.a=true then
     F502_92 aZ aT aY aX aW aV fA eZ lI lH
    else
     some false
   else
    some false
  else
   F502_92 aZ aT aY aX aW aV fA eZ lI lH
 else
  F502_92 aZ aT aY aX aW aV fA eZ lI lH
def F502(a0:List U8):Option Bool:=
 (F140 a0).bind fun x1=>
 if x1=true then
  some true
 else
  (F457 a0).bind fun x3=>
  (F458 x3.a x3.b x3.c x3.d x3.e).bind fun x5=>
  (F459 x3.a x3.b x3.c x3.d x3.e).bind fun x7=>
  if x5.b=x7.b then
   if(x5.a==x7.a)=true then
    (F460 a0).bind fun bA=>
    (F461 bA.a bA.b bA.c bA.d).bind fun bD=>
    (F462 bA.a bA.b bA.c bA.d).bind fun cQ=>
    if bD.b=cQ.b then
     if(bD.a==cQ.a)=true then
      F502_91 x3.a.P x3.a.D x3.a.M x3.b.P x3.b.D x3.b.M x3.c x3.d x5.a x5.b bA.a.P bA.a.D bA.a.M bA.b.P bA.b.D bA.b.M bA.c bA.d bD.a bD.b
     else
      some false
    else
     some false
   else
    some false
  else
   some false
def I502_1(aZ:Int)(aT:L1)(aY:L3)(aX:Int)(aW:L1)(aV:L3)(fA:L3)(eZ:L3)(r0 r1:nO)(cP:Int)(s:Unit)(e:Env)(h:Heap):Prop:=
 ∃mV:Nat,h=⟨[r0,r1,(2,some [iI aZ,iL aT,iL aY]),(3,some [iI aX,iL aW,iL aV])],mV⟩∧e.length=153∧e.at 12=V.ptr 2 2 0∧e.at 13=V.ptr 3 3 0∧e.at 14=iL fA∧e.at 15=iL eZ∧e.at 22=iI cP
def P502_1(aZ:Int)(aT:L1)(aY:L3)(aX:Int)(aW:L1)(aV:L3)(fA:L3)(eZ:L3)(r0 r1:nO)(t:(Unit)⊕Bool)(x:Ex)(e:Env)(h:Heap):Prop:=
 match t with
 | .inl _=> x= .normal∧∃mV:Nat,h=⟨[r0,r1,(2,some [iI aZ,iL aT,iL aY]),(3,some [iI aX,iL aW,iL aV])],mV⟩∧e.length=153
 | .inr r=> x= .ret∧Fin p502 (enc r) .ret e h
theorem l502_1(aZ:Int)(aT:L1)(aY:L3)(aX:Int)(aW:L1)(aV:L3)(fA:L3)(eZ:L3)(r0 r1:nO){lo:Int}{s:Unit}{t:(Unit)⊕Bool}(hF:forR lo (aT.length:Int) (F502_1_B aZ aT aY aX aW aV fA eZ) (F502_1_D aZ aT aY aX aW aV fA eZ) s=some t){e:Env}{h:Heap}(hI:I502_1 aZ aT aY aX aW aV fA eZ r0 r1 lo s e h):W A c502_1 e h (P502_1 aZ aT aY aX aW aV fA eZ r0 r1 t):=by
 show W A (.block 0 (.loop false b502_1)) e h _;rw[qj];refine qz hF 4 (by obtain⟨_,rfl,_⟩:=hI; rfl) (I502_1 aZ aT aY aX aW aV fA eZ r0 r1) hI ?_ ?_
 ·rintro cP _ e h ⟨mV,rfl,h_27⟩ hlt hw o ho
  unfold F502_1_B at ho;obtain⟨cW,fB,ho⟩:=bS ho;have o8:ans A 463 [V.agg [iI aZ,iL aT,iL aY],V.agg [iI aX,iL aW,iL aV],iL fA,iI cP]=some (V.tup [iI cW.a,iI cW.b]):=s463 ⟨aZ,aT,aY⟩ ⟨aX,aW,aV⟩ fA cP fB;obtain⟨iT,lW,ho⟩:=bS ho;have w33:ans A 463 [V.agg [iI aZ,iL aT,iL aY],V.agg [iI aX,iL aW,iL aV],iL eZ,iI cP]=some (V.tup [iI iT.a,iI iT.b]):=s463 ⟨aZ,aT,aY⟩ ⟨aX,aW,aV⟩ eZ cP lW;by_cases c34:cW.b=0
  ·rw[if_pos c34]at ho
   by_cases c35:iT.b=0
   ·rw[if_pos c35]at ho
    by_cases cp:cW.a=iT.a
    ·rw[if_pos cp]at ho
     cases ho;simp only[simprocAttr,R0,b502_1, *];refine ai rfl (ei _ (ai rfl ?_));simp only[simprocAttr,R0, *]
    ·rw[if_neg cp]at ho
     cases ho;simp only[simprocAttr,R0,b502_1, *];intro ht; subst ht;simp only[simprocAttr,RR,RB];exact ai rfl (qc (by simp only[simprocAttr,R0,qe,p502,Rs.ev,qb, *]))
   ·rw[if_neg c35]at ho
    cases ho;simp only[simprocAttr,R0,b502_1, *];intro ht; subst ht;simp only[simprocAttr,RR,RB];exact ai rfl (qc (by simp only[simprocAttr,R0,qe,p502,Rs.ev,qb, *]))
  ·rw[if_neg c34]at ho
   cases ho;simp only[simprocAttr,R0,b502_1, *];intro ht; subst ht;simp only[simprocAttr,RR,RB];exact ai rfl (qc (by simp only[simprocAttr,R0,qe,p502,Rs.ev,qb, *]))
 ·rintro cP _ e h ⟨mV,rfl,h_27⟩ hge t1 ho
  unfold F502_1_D at ho;cases ho;simp only[simprocAttr,R0,b502_1, *];intro ht; subst ht;refine ai rfl (ei _ (ai rfl ?_));simp only[simprocAttr,R0, *]
theorem k502_2_4(r0 r1:nO)(aZ:Int)(aT:L1)(aY:L3)(aX:Int)(aW:L1)(aV:L3)(fA:L3)(eZ:L3)(lI:Bool)(lH:Int){r:Bool}(hF:F502_92 aZ aT aY aX aW aV fA eZ lI lH=some r){ck:Nat}{e:Env}(hC:e.length=153∧e.at 12=V.ptr 2 2 0∧e.at 13=V.ptr 3 3 0∧e.at 14=iL fA∧e.at 15=iL eZ∧e.at 16=V.bool lI∧e.at 17=iI lH):W A j502_2 e ⟨[r0,r1,(2,some [iI aZ,iL aT,iL aY]),(3,some [iI aX,iL aW,iL aV])],ck⟩ (Fin p502 (enc r)):=by
 obtain⟨hl_25,nd,na,my,mv,mt,mq⟩:=hC;unfold F502_92 at hF;by_cases c26:lH=0
 ·rw[if_pos c26]at hF
  cases lI with
  |true=>
   rw[if_pos rfl]at hF;obtain⟨kx,pT,hF⟩:=bS hF;rcases kx with _|v7
   ·dsimp only at hF
    simp only[simprocAttr, -Int.reduceNatCast',R0,j502_2, *];refine W.mono (l502_1 aZ aT aY aX aW aV fA eZ r0 r1 pT (ei _ (ai rfl ?_))) ?_
    ·simp only[simprocAttr, -Int.reduceNatCast',R0, *]
    rintro _ e _ ⟨rfl,mV,rfl,hl_29⟩;have hE:=wA hF; subst hE;simp only[simprocAttr, -Int.reduceNatCast',R0, *];exact qc (by simp only[simprocAttr, -Int.reduceNatCast',R0,qe,p502,Rs.ev,qb, *])
   ·dsimp only at hF
    have hE:=wA hF; subst hE;simp only[simprocAttr, -Int.reduceNatCast',R0,j502_2, *];refine W.mono (l502_1 aZ aT aY aX aW aV fA eZ r0 r1 pT (ei _ (ai rfl ?_))) ?_
    ·simp only[simprocAttr, -Int.reduceNatCast',R0, *]
    rintro _ e h ⟨rfl,hq⟩;simp only[simprocAttr, -Int.reduceNatCast',RR,RB];exact hq
  |false=>
   rw[if_neg wD]at hF;have hE:=wA hF; subst hE;simp only[simprocAttr, -Int.reduceNatCast',R0,j502_2, *];exact qc (by simp only[simprocAttr, -Int.reduceNatCast',R0,qe,p502,Rs.ev,qb, *])
 ·rw[if_neg c26]at hF
  have hE:=wA hF; subst hE;simp only[simprocAttr, -Int.reduceNatCast',R0,j502_2, *];exact qc (by simp only[simprocAttr, -Int.reduceNatCast',R0,qe,p502,Rs.ev,qb, *])
theorem k502_1_4(mO:Int)(mM:L1)(mL:L3)(mK:Int)(mJ:L1)(mI:L3)(y5:L3)(y6:L3)(y8:Bool)(y9:Int)(aZ:Int)(aT:L1)(aY:L3)(aX:Int)(aW:L1)(aV:L3)(fA:L3)(eZ:L3)(lI:Bool)(lH:Int){r:Bool}(hF:F502_91 mO mM mL mK mJ mI y5 y6 y8 y9 aZ aT aY aX aW aV fA eZ lI lH=some r){ck:Nat}{e:Env}(hC:e.length=153∧e.at 3=V.ptr 0 0 0∧e.at 4=V.ptr 1 1 0∧e.at 5=iL y5∧e.at 6=iL y6∧e.at 8=V.bool y8∧e.at 9=iI y9∧e.at 12=V.ptr 2 2 0∧e.at 13=V.ptr 3 3 0∧e.at 14=iL fA∧e.at 15=iL eZ∧e.at 16=V.bool lI∧e.at 17=iI lH):W A j502_1 e ⟨[(0,some [iI mO,iL mM,iL mL]),(1,some [iI mK,iL mJ,iL mI]),(2,some [iI aZ,iL aT,iL aY]),(3,some [iI aX,iL aW,iL aV])],ck⟩ (Fin p502 (enc r)):=by
 obtain⟨hl_19,h3_19,h4_19,h5_19,h6_19,h8_19,h9_19,nf,nc,mz,mw,mu,mr⟩:=hC;unfold F502_91 at hF;by_cases cr:y9=0
 ·rw[if_pos cr]at hF
  cases y8 with
  |true=>
   rw[if_pos rfl]at hF;obtain⟨dA,dL,hF⟩:=bS hF;have sL:ans A 461 [V.agg [iI mO,iL mM,iL mL],V.agg [iI mK,iL mJ,iL mI],iL y5,iL y6]=some (V.tup [V.bool dA.a,iI dA.b]):=s461 ⟨mO,mM,mL⟩ ⟨mK,mJ,mI⟩ y5 y6 dL;by_cases c23:dA.b=0
   ·rw[if_pos c23]at hF
    by_cases uU:dA.a=true
    ·rw[if_pos uU]at hF
     simp only[simprocAttr, -Int.reduceNatCast',R0,j502_1, *];refine k502_2_4 _ _ aZ aT aY aX aW aV fA eZ lI lH hF ?_;simp only[simprocAttr, -Int.reduceNatCast',R0, *]
    ·rw[if_neg uU]at hF
     have hE:=wA hF; subst hE;simp only[simprocAttr, -Int.reduceNatCast',R0,j502_1,Bool.eq_false_iff.2 uU, *];exact qc (by simp only[simprocAttr, -Int.reduceNatCast',R0,qe,p502,Rs.ev,qb,Bool.eq_false_iff.2 uU, *])
   ·rw[if_neg c23]at hF
    have hE:=wA hF; subst hE;simp only[simprocAttr, -Int.reduceNatCast',R0,j502_1, *];exact qc (by simp only[simprocAttr, -Int.reduceNatCast',R0,qe,p502,Rs.ev,qb, *])
  |false=>
   rw[if_neg wD]at hF;simp only[simprocAttr, -Int.reduceNatCast',R0,j502_1, *];refine k502_2_4 _ _ aZ aT aY aX aW aV fA eZ lI lH hF ?_;simp only[simprocAttr, -Int.reduceNatCast',R0, *]
 ·rw[if_neg cr]at hF
  simp only[simprocAttr, -Int.reduceNatCast',R0,j502_1, *];refine k502_2_4 _ _ aZ aT aY aX aW aV fA eZ lI lH hF ?_;simp only[simprocAttr, -Int.reduceNatCast',R0, *]
theorem s502(a0:List U8){r:Bool}(hF:F502 a0=some r):ans A 502 [iL a0]=some (enc r):=by
 refine qv (f:=p502) rfl rfl rfl fun e hl he=>?_;have aA:=he 0 _ rfl;have hl_0:e.length=153:=hl;clear he hl;have h_0:=ai hl_0 aA;show W A b502 e ⟨[],0⟩ _;unfold F502 at hF;obtain⟨x1,bI,hF⟩:=bS hF;have w2:ans A 140 [iL a0]=some (V.bool x1):=s140 a0 bI;cases x1 with
 |true=>
  rw[if_pos rfl]at hF;cases hF;simp only[simprocAttr,R0,b502, *];exact qc (by simp only[simprocAttr,R0,qe,p502,Rs.ev,qb, *])
 |false=>
  rw[if_neg wD]at hF;obtain⟨x3,dO,hF⟩:=bS hF;have w4:ans A 457 [iL a0]=some (V.tup [(eC x3.a),(eC x3.b),iL x3.c,iL x3.d,iL x3.e]):=s457 a0 dO;obtain⟨x5,dC,hF⟩:=bS hF;have w6:ans A 458 [(eC x3.a),(eC x3.b),iL x3.c,iL x3.d,iL x3.e]=some (V.tup [V.bool x5.a,iI x5.b]):=s458 x3.a x3.b x3.c x3.d x3.e dC;obtain⟨x7,dF,hF⟩:=bS hF;have w8:ans A 459 [(eC x3.a),(eC x3.b),iL x3.c,iL x3.d,iL x3.e]=some (V.tup [V.bool x7.a,iI x7.b]):=s459 x3.a x3.b x3.c x3.d x3.e dF;by_cases c9:x5.b=x7.b
  ·rw[if_pos c9]at hF
   by_cases c10:(x5.a==x7.a)=true
   ·rw[if_pos c10]at hF
    obtain⟨bA,cM,hF⟩:=bS hF;have pB:ans A 460 [iL a0]=some (V.tup [(eC bA.a),(eC bA.b),iL bA.c,iL bA.d]):=s460 a0 cM;obtain⟨bD,cD,hF⟩:=bS hF;have mT:ans A 461 [(eC bA.a),(eC bA.b),iL bA.c,iL bA.d]=some (V.tup [V.bool bD.a,iI bD.b]):=s461 bA.a bA.b bA.c bA.d cD;obtain⟨cQ,dP,hF⟩:=bS hF;have f0:ans A 462 [(eC bA.a),(eC bA.b),iL bA.c,iL bA.d]=some (V.tup [V.bool cQ.a,iI cQ.b]):=s462 bA.a bA.b bA.c bA.d dP;by_cases rT:bD.b=cQ.b
    ·rw[if_pos rT]at hF
     by_cases pF:(bD.a==cQ.a)=true
     ·rw[if_pos pF]at hF
      simp only[simprocAttr,R0,b502, *];refine k502_1_4 x3.a.P x3.a.D x3.a.M x3.b.P x3.b.D x3.b.M x3.c x3.d x5.a x5.b bA.a.P bA.a.D bA.a.M bA.b.P bA.b.D bA.b.M bA.c bA.d bD.a bD.b hF ?_;simp only[simprocAttr,R0, *]
     ·rw[if_neg pF]at hF
      cases hF;simp only[simprocAttr,R0,b502,Bool.eq_false_iff.2 pF, *];exact qc (by simp only[simprocAttr,R0,qe,p502,Rs.ev,qb,Bool.eq_false_iff.2 pF, *])
    ·rw[if_neg rT]at hF
     cases hF;simp only[simprocAttr,R0,b502, *];exact qc (by simp only[simprocAttr,R0,qe,p502,Rs.ev,qb, *])
   ·rw[if_neg c10]at hF
    cases hF;simp only[simprocAttr,R0,b502,Bool.eq_false_iff.2 c10, *];exact qc (by simp only[simprocAttr,R0,qe,p502,Rs.ev,qb,Bool.eq_false_iff.2 c10, *])
  ·rw[if_neg c9]at hF
   cases hF;simp only[simprocAttr,R0,b502, *];exact qc (by simp only[simprocAttr,R0,qe,p502,Rs.ev,qb, *])
end
end Rv
