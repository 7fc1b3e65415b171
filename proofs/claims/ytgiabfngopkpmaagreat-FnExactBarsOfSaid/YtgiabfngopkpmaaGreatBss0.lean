/- What the abstract code answers: typed functions, part 1. -/
import Derived.Test.YtgiabfngopkpmaaGreatBsp
set_option maxHeartbeats 8000000
namespace Rv
open Enc (enc)
theorem ai{a b:Prop}(x:a)(y:b):a∧b:=⟨x,y⟩
theorem ei.{u}{α:Sort u}{p:α→Prop}(w:α)(h:p w):∃x,p x:=⟨w,h⟩
set_option linter.unusedVariables false
set_option linter.unusedSimpArgs false
set_option maxRecDepth 100000
noncomputable section
abbrev eC(x:GComplex):V:=V.agg [V.int .i64 x.Prime,V.isl (x.Dims.map enc),V.isl (x.Maps.map enc)]
abbrev eF(x:GFiltered):V:=V.agg [V.int .i64 x.Complex.Prime,V.isl (x.Complex.Dims.map enc),V.isl (x.Complex.Maps.map enc),V.isl (x.Levels.map enc)]
abbrev eK(x:ji):V:=V.agg [V.isl (x.Down.map enc),V.isl (x.Up.map enc),V.isl (x.Back.map enc)]
theorem R1:type_of%(ai RR (ai RB (ai RZ (ai @ii_eq <|ai @nn_eq <|ai @oM_e <|ai @oL_e <|ai @oS_e <|ai @oF_e <|ai @oB_e <|ai @oC_e <|ai @oI_e <|ai @oN_e <|ai @oP_e <|ai @oQ_e <|ai @oR_e <|ai @oU_e <|ai @opEv.eq_1 <|ai @opEv.eq_2 <|ai @opEv.eq_3 <|ai @opEv.eq_4 <|ai @opEv.eq_5 <|ai @opEv.eq_6 <|ai @opEv.eq_7 <|ai @opEv.eq_8 <|ai @opEv.eq_9 <|ai @opEv.eq_10 <|ai @opEv.eq_11 <|ai @opEv.eq_12 <|ai @opEv.eq_13 <|ai @opEv.eq_14 <|ai @opEv.eq_15 <|ai @opEv.eq_16 <|ai @opEv.eq_17 <|ai @opEv.eq_18 <|ai @opEv.eq_19 <|ai @opEv.eq_20 <|ai @opEv.eq_21 <|ai @opEv.eq_22 <|ai @opEv.eq_23 <|ai @opEv.eq_24 <|ai @opEv.eq_25 <|ai @opEv.eq_26 <|ai @opEv.eq_27 <|ai @opEv.eq_28 <|ai @opEv.eq_29 <|ai @opEv.eq_30 <|ai @opEv.eq_31 <|ai @opEv.eq_32 <|ai @opEv.eq_33 <|ai @opEv.eq_34 <|ai @opEv.eq_35 <|ai @opEv.eq_36 <|ai @opEv.eq_37 <|ai @jN.eq_1 <|ai @jN.eq_2 <|ai @mapO.eq_1 <|ai @mapO.eq_2 <|ai @mapS.eq_1 <| @mapS.eq_2)))):=ai RR (ai RB (ai RZ (ai @ii_eq <|ai @nn_eq <|ai @oM_e <|ai @oL_e <|ai @oS_e <|ai @oF_e <|ai @oB_e <|ai @oC_e <|ai @oI_e <|ai @oN_e <|ai @oP_e <|ai @oQ_e <|ai @oR_e <|ai @oU_e <|ai @opEv.eq_1 <|ai @opEv.eq_2 <|ai @opEv.eq_3 <|ai @opEv.eq_4 <|ai @opEv.eq_5 <|ai @opEv.eq_6 <|ai @opEv.eq_7 <|ai @opEv.eq_8 <|ai @opEv.eq_9 <|ai @opEv.eq_10 <|ai @opEv.eq_11 <|ai @opEv.eq_12 <|ai @opEv.eq_13 <|ai @opEv.eq_14 <|ai @opEv.eq_15 <|ai @opEv.eq_16 <|ai @opEv.eq_17 <|ai @opEv.eq_18 <|ai @opEv.eq_19 <|ai @opEv.eq_20 <|ai @opEv.eq_21 <|ai @opEv.eq_22 <|ai @opEv.eq_23 <|ai @opEv.eq_24 <|ai @opEv.eq_25 <|ai @opEv.eq_26 <|ai @opEv.eq_27 <|ai @opEv.eq_28 <|ai @opEv.eq_29 <|ai @opEv.eq_30 <|ai @opEv.eq_31 <|ai @opEv.eq_32 <|ai @opEv.eq_33 <|ai @opEv.eq_34 <|ai @opEv.eq_35 <|ai @opEv.eq_36 <|ai @opEv.eq_37 <|ai @jN.eq_1 <|ai @jN.eq_2 <|ai @mapO.eq_1 <|ai @mapO.eq_2 <|ai @mapS.eq_1 <| @mapS.eq_2)))
theorem R0:type_of%(ai R1 RE):=ai R1 RE
theorem k0(l:List Int):List.drop 8 (arc .u8 8 l)=[]:=yX (by rw[arc_len]; exact wD _)
def F30_1_B(a0:List Int)(a1:List Int)(v5_1:Int)(s:Unit):Option ((Unit)⊕((Unit)⊕Bool)):=
 (getI a0 v5_1).bind fun x5=>
(getI a1 v5_1).bind fun x7=>
if x5=x7 then
 some (.inl ())
else
 some (.inr (.inr false))
def F30_1_D(a0:List Int)(a1:List Int)(v5_1:Int)(s:Unit):Option ((Unit)⊕Bool):=
 some (.inl ())
def F30(a0:List Int)(a1:List Int):Option Bool:=
 if(a0.length:Int)=(a1.length:Int)then
  (forR 0 (a0.length:Int) (F30_1_B a0 a1) (F30_1_D a0 a1) ()).bind fun t10=> match t10 with
   | .inl _=>
    some true
   | .inr r11=> some r11
 else
  some false
def I30_1(a0:List Int)(a1:List Int)(v5_1:Int)(s:Unit)(e:Env)(h:Heap):Prop:=
 ∃k3:Nat,h=⟨[],k3⟩∧e.length=26∧e.at 0=V.isl (a0.map enc)∧e.at 1=V.isl (a1.map enc)∧e.at 5=V.int .i64 v5_1
def P30_1(a0:List Int)(a1:List Int)(t:(Unit)⊕Bool)(x:Ex)(e:Env)(h:Heap):Prop:=
 match t with
 | .inl _=> x= .normal∧∃k3:Nat,h=⟨[],k3⟩∧e.length=26
 | .inr r=> x= .ret∧Fin p30 (enc r) .ret e h
theorem l30_1(a0:List Int)(a1:List Int){lo:Int}{s:Unit}{t:(Unit)⊕Bool}(hF:forR lo (a0.length:Int) (F30_1_B a0 a1) (F30_1_D a0 a1) s=some t){e:Env}{h:Heap}(hI:I30_1 a0 a1 lo s e h):W A c30_1 e h (P30_1 a0 a1 t):=by
 show W A (.block 0 (.loop false b30_1)) e h _;rw[qh];refine qv hF 0 (by obtain⟨_,rfl,_⟩:=hI; rfl) (I30_1 a0 a1) hI ?_ ?_
 ·rintro v5_1 _ e h ⟨k3,rfl,h_2⟩ hlt hw o ho
  unfold F30_1_B at ho;obtain⟨x5,gx5,ho⟩:=bS ho;obtain⟨w6a,w6b⟩:=qf gx5;obtain⟨x7,gx7,ho⟩:=bS ho;obtain⟨w8a,w8b⟩:=qf gx7;by_cases c9:x5=x7
  ·rw[if_pos c9]at ho
   cases ho;simp only[simprocAttr,R0,b30_1, *];refine ai rfl (ei _ (ai rfl ?_));simp only[simprocAttr,R0, *]
  ·rw[if_neg c9]at ho
   cases ho;simp only[simprocAttr,R0,b30_1, *];intro ht;(first|subst ht|cases t);simp only[simprocAttr,RR,RB];exact ai rfl (qd (by simp only[simprocAttr,R0,qb,p30,Rs.ev,qa, *]))
 ·rintro v5_1 _ e h ⟨k3,rfl,h_2⟩ hge t1 ho
  unfold F30_1_D at ho;cases ho;simp only[simprocAttr,R0,b30_1, *];intro ht;(first|subst ht|cases t);refine ai rfl (ei _ (ai rfl ?_));simp only[simprocAttr,R0, *]
theorem s30(a0:List Int)(a1:List Int){r:Bool}(hF:F30 a0 a1=some r):ans A 30 [V.isl (a0.map enc),V.isl (a1.map enc)]=some (enc r):=by
 refine qp (f:=p30) rfl rfl rfl fun e hl he=>?_;have h0_0:e.at 0=V.isl (a0.map enc):=he 0 _ rfl;have h1_0:e.at 1=V.isl (a1.map enc):=he 1 _ rfl;have hl_0:e.length=26:=hl;clear he hl;have h_0:=ai hl_0 (ai h0_0 h1_0);show W A b30 e ⟨[],0⟩ _;unfold F30 at hF;by_cases c1:(a0.length:Int)=(a1.length:Int)
 ·rw[if_pos c1]at hF
  obtain⟨t10,gt10,hF⟩:=bS hF;rcases t10 with _|r11
  ·dsimp only at hF
   simp only[simprocAttr,R0,b30, *];refine W.mono (l30_1 a0 a1 gt10 (ei _ (ai rfl ?_))) ?_
   ·simp only[simprocAttr,R0, *]
   rintro _ e _ ⟨rfl,k3,rfl,hl_4⟩;cases hF;simp only[simprocAttr,R0, *];exact qd (by simp only[simprocAttr,R0,qb,p30,Rs.ev,qa, *])
  ·dsimp only at hF
   cases hF;simp only[simprocAttr,R0,b30, *];refine W.mono (l30_1 a0 a1 gt10 (ei _ (ai rfl ?_))) ?_
   ·simp only[simprocAttr,R0, *]
   rintro _ e h ⟨rfl,hq⟩;simp only[simprocAttr,RR,RB];exact hq
 ·rw[if_neg c1]at hF
  cases hF;simp only[simprocAttr,R0,b30, *];exact qd (by simp only[simprocAttr,R0,qb,p30,Rs.ev,qa, *])
def F51_1_B(a0:List (List Int))(a1:List (List Int))(v5_1:Int)(s:Unit):Option ((Unit)⊕((Unit)⊕Bool)):=
 (getI a0 v5_1).bind fun x5=>
(getI a1 v5_1).bind fun x7=>
(F30 x5 x7).bind fun x9=>
if x9=true then
 some (.inl ())
else
 some (.inr (.inr false))
def F51_1_D(a0:List (List Int))(a1:List (List Int))(v5_1:Int)(s:Unit):Option ((Unit)⊕Bool):=
 some (.inl ())
def F51(a0:List (List Int))(a1:List (List Int)):Option Bool:=
 if(a0.length:Int)=(a1.length:Int)then
  (forR 0 (a0.length:Int) (F51_1_B a0 a1) (F51_1_D a0 a1) ()).bind fun t11=> match t11 with
   | .inl _=>
    some true
   | .inr r12=> some r12
 else
  some false
def I51_1(a0:List (List Int))(a1:List (List Int))(v5_1:Int)(s:Unit)(e:Env)(h:Heap):Prop:=
 ∃k3:Nat,h=⟨[],k3⟩∧e.length=27∧e.at 0=V.isl (a0.map enc)∧e.at 1=V.isl (a1.map enc)∧e.at 5=V.int .i64 v5_1
def P51_1(a0:List (List Int))(a1:List (List Int))(t:(Unit)⊕Bool)(x:Ex)(e:Env)(h:Heap):Prop:=
 match t with
 | .inl _=> x= .normal∧∃k3:Nat,h=⟨[],k3⟩∧e.length=27
 | .inr r=> x= .ret∧Fin p51 (enc r) .ret e h
theorem l51_1(a0:List (List Int))(a1:List (List Int)){lo:Int}{s:Unit}{t:(Unit)⊕Bool}(hF:forR lo (a0.length:Int) (F51_1_B a0 a1) (F51_1_D a0 a1) s=some t){e:Env}{h:Heap}(hI:I51_1 a0 a1 lo s e h):W A c51_1 e h (P51_1 a0 a1 t):=by
 show W A (.block 0 (.loop false b51_1)) e h _;rw[qh];refine qv hF 0 (by obtain⟨_,rfl,_⟩:=hI; rfl) (I51_1 a0 a1) hI ?_ ?_
 ·rintro v5_1 _ e h ⟨k3,rfl,h_2⟩ hlt hw o ho
  unfold F51_1_B at ho;obtain⟨x5,gx5,ho⟩:=bS ho;obtain⟨w6a,w6b⟩:=qf gx5;obtain⟨x7,gx7,ho⟩:=bS ho;obtain⟨w8a,w8b⟩:=qf gx7;obtain⟨x9,gx9,ho⟩:=bS ho;have w10:=s30 x5 x7 gx9;cases x9 with
  |true=>
   rw[if_pos rfl]at ho;cases ho;simp only[simprocAttr,R0,b51_1, *];refine ai rfl (ei _ (ai rfl ?_));simp only[simprocAttr,R0, *]
  |false=>
   rw[if_neg wE]at ho;cases ho;simp only[simprocAttr,R0,b51_1, *];intro ht;(first|subst ht|cases t);simp only[simprocAttr,RR,RB];exact ai rfl (qd (by simp only[simprocAttr,R0,qb,p51,Rs.ev,qa, *]))
 ·rintro v5_1 _ e h ⟨k3,rfl,h_2⟩ hge t1 ho
  unfold F51_1_D at ho;cases ho;simp only[simprocAttr,R0,b51_1, *];intro ht;(first|subst ht|cases t);refine ai rfl (ei _ (ai rfl ?_));simp only[simprocAttr,R0, *]
theorem s51(a0:List (List Int))(a1:List (List Int)){r:Bool}(hF:F51 a0 a1=some r):ans A 51 [V.isl (a0.map enc),V.isl (a1.map enc)]=some (enc r):=by
 refine qp (f:=p51) rfl rfl rfl fun e hl he=>?_;have h0_0:e.at 0=V.isl (a0.map enc):=he 0 _ rfl;have h1_0:e.at 1=V.isl (a1.map enc):=he 1 _ rfl;have hl_0:e.length=27:=hl;clear he hl;have h_0:=ai hl_0 (ai h0_0 h1_0);show W A b51 e ⟨[],0⟩ _;unfold F51 at hF;by_cases c1:(a0.length:Int)=(a1.length:Int)
 ·rw[if_pos c1]at hF
  obtain⟨t11,gt11,hF⟩:=bS hF;rcases t11 with _|r12
  ·dsimp only at hF
   simp only[simprocAttr,R0,b51, *];refine W.mono (l51_1 a0 a1 gt11 (ei _ (ai rfl ?_))) ?_
   ·simp only[simprocAttr,R0, *]
   rintro _ e _ ⟨rfl,k3,rfl,hl_4⟩;cases hF;simp only[simprocAttr,R0, *];exact qd (by simp only[simprocAttr,R0,qb,p51,Rs.ev,qa, *])
  ·dsimp only at hF
   cases hF;simp only[simprocAttr,R0,b51, *];refine W.mono (l51_1 a0 a1 gt11 (ei _ (ai rfl ?_))) ?_
   ·simp only[simprocAttr,R0, *]
   rintro _ e h ⟨rfl,hq⟩;simp only[simprocAttr,RR,RB];exact hq
 ·rw[if_neg c1]at hF
  cases hF;simp only[simprocAttr,R0,b51, *];exact qd (by simp only[simprocAttr,R0,qb,p51,Rs.ev,qa, *])
def F17_1_B(a0:List (List (List Int)))(a1:List (List (List Int)))(v5_1:Int)(s:Unit):Option ((Unit)⊕((Unit)⊕Bool)):=
 (getI a0 v5_1).bind fun x5=>
(getI a1 v5_1).bind fun x7=>
(F51 x5 x7).bind fun x9=>
if x9=true then
 some (.inl ())
else
 some (.inr (.inr false))
def F17_1_D(a0:List (List (List Int)))(a1:List (List (List Int)))(v5_1:Int)(s:Unit):Option ((Unit)⊕Bool):=
 some (.inl ())
def F17(a0:List (List (List Int)))(a1:List (List (List Int))):Option Bool:=
 if(a0.length:Int)=(a1.length:Int)then
  (forR 0 (a0.length:Int) (F17_1_B a0 a1) (F17_1_D a0 a1) ()).bind fun t11=> match t11 with
   | .inl _=>
    some true
   | .inr r12=> some r12
 else
  some false
def I17_1(a0:List (List (List Int)))(a1:List (List (List Int)))(v5_1:Int)(s:Unit)(e:Env)(h:Heap):Prop:=
 ∃k3:Nat,h=⟨[],k3⟩∧e.length=27∧e.at 0=V.isl (a0.map enc)∧e.at 1=V.isl (a1.map enc)∧e.at 5=V.int .i64 v5_1
def P17_1(a0:List (List (List Int)))(a1:List (List (List Int)))(t:(Unit)⊕Bool)(x:Ex)(e:Env)(h:Heap):Prop:=
 match t with
 | .inl _=> x= .normal∧∃k3:Nat,h=⟨[],k3⟩∧e.length=27
 | .inr r=> x= .ret∧Fin p17 (enc r) .ret e h
theorem l17_1(a0:List (List (List Int)))(a1:List (List (List Int))){lo:Int}{s:Unit}{t:(Unit)⊕Bool}(hF:forR lo (a0.length:Int) (F17_1_B a0 a1) (F17_1_D a0 a1) s=some t){e:Env}{h:Heap}(hI:I17_1 a0 a1 lo s e h):W A c17_1 e h (P17_1 a0 a1 t):=by
 show W A (.block 0 (.loop false b17_1)) e h _;rw[qh];refine qv hF 0 (by obtain⟨_,rfl,_⟩:=hI; rfl) (I17_1 a0 a1) hI ?_ ?_
 ·rintro v5_1 _ e h ⟨k3,rfl,h_2⟩ hlt hw o ho
  unfold F17_1_B at ho;obtain⟨x5,gx5,ho⟩:=bS ho;obtain⟨w6a,w6b⟩:=qf gx5;obtain⟨x7,gx7,ho⟩:=bS ho;obtain⟨w8a,w8b⟩:=qf gx7;obtain⟨x9,gx9,ho⟩:=bS ho;have w10:=s51 x5 x7 gx9;cases x9 with
  |true=>
   rw[if_pos rfl]at ho;cases ho;simp only[simprocAttr,R0,b17_1, *];refine ai rfl (ei _ (ai rfl ?_));simp only[simprocAttr,R0, *]
  |false=>
   rw[if_neg wE]at ho;cases ho;simp only[simprocAttr,R0,b17_1, *];intro ht;(first|subst ht|cases t);simp only[simprocAttr,RR,RB];exact ai rfl (qd (by simp only[simprocAttr,R0,qb,p17,Rs.ev,qa, *]))
 ·rintro v5_1 _ e h ⟨k3,rfl,h_2⟩ hge t1 ho
  unfold F17_1_D at ho;cases ho;simp only[simprocAttr,R0,b17_1, *];intro ht;(first|subst ht|cases t);refine ai rfl (ei _ (ai rfl ?_));simp only[simprocAttr,R0, *]
theorem s17(a0:List (List (List Int)))(a1:List (List (List Int))){r:Bool}(hF:F17 a0 a1=some r):ans A 17 [V.isl (a0.map enc),V.isl (a1.map enc)]=some (enc r):=by
 refine qp (f:=p17) rfl rfl rfl fun e hl he=>?_;have h0_0:e.at 0=V.isl (a0.map enc):=he 0 _ rfl;have h1_0:e.at 1=V.isl (a1.map enc):=he 1 _ rfl;have hl_0:e.length=27:=hl;clear he hl;have h_0:=ai hl_0 (ai h0_0 h1_0);show W A b17 e ⟨[],0⟩ _;unfold F17 at hF;by_cases c1:(a0.length:Int)=(a1.length:Int)
 ·rw[if_pos c1]at hF
  obtain⟨t11,gt11,hF⟩:=bS hF;rcases t11 with _|r12
  ·dsimp only at hF
   simp only[simprocAttr,R0,b17, *];refine W.mono (l17_1 a0 a1 gt11 (ei _ (ai rfl ?_))) ?_
   ·simp only[simprocAttr,R0, *]
   rintro _ e _ ⟨rfl,k3,rfl,hl_4⟩;cases hF;simp only[simprocAttr,R0, *];exact qd (by simp only[simprocAttr,R0,qb,p17,Rs.ev,qa, *])
  ·dsimp only at hF
   cases hF;simp only[simprocAttr,R0,b17, *];refine W.mono (l17_1 a0 a1 gt11 (ei _ (ai rfl ?_))) ?_
   ·simp only[simprocAttr,R0, *]
   rintro _ e h ⟨rfl,hq⟩;simp only[simprocAttr,RR,RB];exact hq
 ·rw[if_neg c1]at hF
  cases hF;simp only[simprocAttr,R0,b17, *];exact qd (by simp only[simprocAttr,R0,qb,p17,Rs.ev,qa, *])
def F16(a0:GComplex)(a1:GComplex):Option Bool:=
 if a0.Prime=a1.Prime then
  (F30 a0.Dims a1.Dims).bind fun x2=>
  if x2=true then
   (F17 a0.Maps a1.Maps).bind fun x4=>
   if x4=true then
    some true
   else
    some false
  else
   some false
 else
  some false
theorem s16(a0:GComplex)(a1:GComplex){r:Bool}(hF:F16 a0 a1=some r):ans A 16 [(eC a0),(eC a1)]=some (enc r):=by
 refine qp (f:=p16) rfl rfl rfl fun e hl he=>?_;have h0_0:e.at 0=(eC a0):=he 0 _ rfl;have h1_0:e.at 1=(eC a1):=he 1 _ rfl;have hl_0:e.length=22:=hl;clear he hl;have h_0:=ai hl_0 (ai h0_0 h1_0);show W A b16 e ⟨[],0⟩ _;unfold F16 at hF;by_cases c1:a0.Prime=a1.Prime
 ·rw[if_pos c1]at hF
  obtain⟨x2,gx2,hF⟩:=bS hF;have w3:=s30 a0.Dims a1.Dims gx2;cases x2 with
  |true=>
   rw[if_pos rfl]at hF;obtain⟨x4,gx4,hF⟩:=bS hF;have w5:=s17 a0.Maps a1.Maps gx4;cases x4 with
   |true=>
    rw[if_pos rfl]at hF;cases hF;simp only[simprocAttr,R0,b16, *];exact qd (by simp only[simprocAttr,R0,qb,p16,Rs.ev,qa, *])
   |false=>
    rw[if_neg wE]at hF;cases hF;simp only[simprocAttr,R0,b16, *];exact qd (by simp only[simprocAttr,R0,qb,p16,Rs.ev,qa, *])
  |false=>
   rw[if_neg wE]at hF;cases hF;simp only[simprocAttr,R0,b16, *];exact qd (by simp only[simprocAttr,R0,qb,p16,Rs.ev,qa, *])
 ·rw[if_neg c1]at hF
  cases hF;simp only[simprocAttr,R0,b16, *];exact qd (by simp only[simprocAttr,R0,qb,p16,Rs.ev,qa, *])
def F25(a0:GFiltered)(a1:GFiltered):Option Bool:=
 (F16 a0.Complex a1.Complex).bind fun x1=>
 if x1=true then
  (F51 a0.Levels a1.Levels).bind fun x3=>
  if x3=true then
   some true
  else
   some false
 else
  some false
theorem s25(a0:GFiltered)(a1:GFiltered){r:Bool}(hF:F25 a0 a1=some r):ans A 25 [(eF a0),(eF a1)]=some (enc r):=by
 refine qp (f:=p25) rfl rfl rfl fun e hl he=>?_;have h0_0:e.at 0=(eF a0):=he 0 _ rfl;have h1_0:e.at 1=(eF a1):=he 1 _ rfl;have hl_0:e.length=17:=hl;clear he hl;have h_0:=ai hl_0 (ai h0_0 h1_0);show W A b25 e ⟨[],0⟩ _;unfold F25 at hF;obtain⟨x1,gx1,hF⟩:=bS hF;have w2:=s16 a0.Complex a1.Complex gx1;cases x1 with
 |true=>
  rw[if_pos rfl]at hF;obtain⟨x3,gx3,hF⟩:=bS hF;have w4:=s51 a0.Levels a1.Levels gx3;cases x3 with
  |true=>
   rw[if_pos rfl]at hF;cases hF;simp only[simprocAttr,R0,b25, *];exact qd (by simp only[simprocAttr,R0,qb,p25,Rs.ev,qa, *])
  |false=>
   rw[if_neg wE]at hF;cases hF;simp only[simprocAttr,R0,b25, *];exact qd (by simp only[simprocAttr,R0,qb,p25,Rs.ev,qa, *])
 |false=>
  rw[if_neg wE]at hF;cases hF;simp only[simprocAttr,R0,b25, *];exact qd (by simp only[simprocAttr,R0,qb,p25,Rs.ev,qa, *])
def F31_1_B(i:Int)(s:List Int×Int):Option ((List Int×Int)⊕(List Int×Int)):=
 (setI s.1 i s.2).bind fun l=>(chk (s.2+1)).bind fun k=> some (.inl (l,k))
def F31_1_D(i:Int)(s:List Int×Int):Option (List Int×Int):=some s
def F31(l:List Int)(k:Int):Option (List Int×Int):=forR 0 (l.length:Int) F31_1_B F31_1_D (l,k)
theorem d31{l:List Int}{k:Int}{r:List Int×Int}(hF:F31 l k=some r)(h:Heap){v:V}{K:Ks}(hr:Deep.rep h v l K):
  ∃h',res A 31 [v,V.int .i64 k] h=some (V.int .i64 r.2,h')∧Deep.rep h' v r.1 K∧(∀k,¬K k→h'.ents[k]? =h.ents[k]?)∧h'.ents.length=h.ents.length:=by
 refine res_ex (f:=p31) rfl rfl rfl fun e hl he=>?_;have h0_0:e.at 0=v:=he 0 _ rfl;have h1_0:e.at 1=V.int .i64 k:=he 1 _ rfl;have hl_0:e.length=19:=hl;clear he hl;show W A b31 e h _;unfold F31 at hF;obtain⟨E,c⟩:=h;simp only[simprocAttr, -Int.reduceNatCast',R1,b31,hl_0,h0_0,h1_0];show W A (.block 0 (.loop true b31_1)) _ _ _;rw[qh];refine qv hF _ rfl (fun i s e h=> Deep.rep h v s.1 K∧(∀k,¬K k→h.ents[k]? =E[k]?)∧h.ents.length=E.length∧s.1.length=l.length∧e.length=19∧e.at 0=v∧e.at 1=V.int .i64 s.2∧e.at 5=V.int .i64 i) ?_ ?_ ?_
 ·refine⟨hr,fun _ _=> rfl,rfl,rfl,?_⟩
  simp only[simprocAttr, -Int.reduceNatCast',R1,hl_0,h0_0,h1_0]
 ·clear hl_0 h0_0 h1_0
  rintro i ⟨s,q⟩ e ⟨E3,c3⟩ ⟨q1,q2,q3,q4,hl_1,h0_1,h1_1,h5_1⟩ hlt hw oo ho;unfold F31_1_B at ho;simp only at ho q1 q2 q3 q4 h1_1;obtain⟨s2,gs,ho⟩:=bS ho;obtain⟨s1,s2',s3,s4,s5⟩:=setI_w gs;obtain⟨k2,gk,ho⟩:=bS ho;have wk:=qm gk;have hE:=wA ho; subst hE;rcases row_int q1 with⟨_,rfl,_⟩|⟨key3,uid3,hx2,d1,d2⟩
  ·simp at s2'; omega
  simp only at d1;have s5':List.take i.toNat (s.map enc)++[V.int .i64 q]++List.drop (i.toNat+1) (s.map enc)=List.map enc s2:=s5;rw[q4]at s3;simp only[simprocAttr, -Int.reduceNatCast',R1,b31_1,hl_1,h0_1,h1_1,h5_1,eq_true hlt,hw,hx2,q4,d1,s1,s3,s5',wk];have hk3:key3 < E3.length:=(List.getElem?_eq_some_iff.1 d1).1;have hsl:s2.length=l.length:=by rw[s4]; exact q4
  refine ai rfl ⟨?_,fun k nk=>?_,by rw[←q3]; simp,hsl,?_⟩
  ·rw[←hsl]; exact int_row (qy hk3) d2
  ·exact(qI (fun e=> nk ((d2 k).2 e))).trans (q2 k nk)
  ·simp only[simprocAttr, -Int.reduceNatCast',R1,hl_1,h0_1,h1_1,h5_1,hw,hx2,q4]
 ·clear hl_0 h0_0 h1_0
  rintro i ⟨s,q⟩ e ⟨E3,c3⟩ ⟨q1,q2,q3,q4,hl_1,h0_1,h1_1,h5_1⟩ hge t1 ho;have hE:=wA ho; subst hE;have hlen:=rep_len q1;simp only at hlen q1 q2 q3 q4 h1_1;simp only[simprocAttr, -Int.reduceNatCast',R1,b31_1,hl_1,h0_1,h1_1,h5_1,hlen,q4,eq_false hge];intro ht; subst ht;refine ai (fun _=> trivial) ⟨?_,q1,q2,q3⟩;simp only[simprocAttr, -Int.reduceNatCast',R1,qb,p31,Rs.ev,mapO,hl_1]
def F52_1_B(i:Int)(s:List (List Int)×Int):Option ((List (List Int)×Int)⊕(List (List Int)×Int)):=
 (getI s.1 i).bind fun r=>(F31 r s.2).bind fun q=>(setI s.1 i q.1).bind fun l=> some (.inl (l,q.2))
def F52_1_D(i:Int)(s:List (List Int)×Int):Option (List (List Int)×Int):=some s
def F52(l:List (List Int))(k:Int):Option (List (List Int)×Int):=forR 0 (l.length:Int) F52_1_B F52_1_D (l,k)
def FM52(x:List (List Int))(k:Int):Option ((List (List Int))×Int):=F52 x k
theorem d52{l:List (List Int)}{k:Int}{r:List (List Int)×Int}(hF:F52 l k=some r)(h:Heap){v:V}{K:Ks}(hr:Deep.rep h v l K):
  ∃h',res A 52 [v,V.int .i64 k] h=some (V.int .i64 r.2,h')∧Deep.rep h' v r.1 K∧(∀k,¬K k→h'.ents[k]? =h.ents[k]?)∧h'.ents.length=h.ents.length:=by
 refine res_ex (f:=p52) rfl rfl rfl fun e hl he=>?_;have h0_0:e.at 0=v:=he 0 _ rfl;have h1_0:e.at 1=V.int .i64 k:=he 1 _ rfl;have hl_0:e.length=19:=hl;clear he hl;show W A b52 e h _;unfold F52 at hF;obtain⟨E,c⟩:=h;simp only[simprocAttr, -Int.reduceNatCast',R1,b52,hl_0,h0_0,h1_0];show W A (.block 0 (.loop true b52_1)) _ _ _;rw[qh];refine qv hF _ rfl (fun i s e h=> Deep.rep h v s.1 K∧(∀k,¬K k→h.ents[k]? =E[k]?)∧h.ents.length=E.length∧s.1.length=l.length∧e.length=19∧e.at 0=v∧e.at 1=V.int .i64 s.2∧e.at 5=V.int .i64 i) ?_ ?_ ?_
 ·refine⟨hr,fun _ _=> rfl,rfl,rfl,?_⟩
  simp only[simprocAttr, -Int.reduceNatCast',R1,hl_0,h0_0,h1_0]
 ·clear hl_0 h0_0 h1_0
  rintro i ⟨s,q⟩ e ⟨E3,c3⟩ ⟨q1,q2,q3,q4,hl_1,h0_1,h1_1,h5_1⟩ hlt hw oo ho;unfold F52_1_B at ho;simp only at ho q1 q2 q3 q4 h1_1;obtain⟨row,gr,ho⟩:=bS ho;obtain⟨ra,rb⟩:=qf gr;obtain⟨t,gt,ho⟩:=bS ho;obtain⟨s2,gs,ho⟩:=bS ho;have sm:s2=s.set i.toNat t.1:=setI_eq gs;have hE:=wA ho; subst hE;obtain⟨key,uid,vs,x1,K1,hm,a1,a2,a3,a4,a5,a6⟩:=rep_focus q1 rb;obtain⟨⟨E4,c4⟩,w1,r1,r2,r3⟩:=d31 gt ⟨E3,c3⟩ a4;have o1:=qw a2;simp only at a1 r2 r3;have hsl:s2.length=l.length:=by rw[sm,vA]; exact q4
  have r4:=a6 _ _ r1 fun k _ nk=> r2 k nk;rw[←sm]at r4;simp only[simprocAttr, -Int.reduceNatCast',R1,b52_1,hl_1,h0_1,h1_1,h5_1,eq_true hlt,hw,hm,q4,a1,ra,o1,qx,w1];refine ai rfl ⟨?_,fun k nk=>(r2 k fun p=> nk (a5 k p)).trans (q2 k nk),by rw[←q3]; exact r3,hsl,?_⟩
  ·rw[←q4,←hm]; exact r4
  ·simp only[simprocAttr, -Int.reduceNatCast',R1,hl_1,h0_1,h1_1,h5_1,hw,hm,q4]
 ·clear hl_0 h0_0 h1_0
  rintro i ⟨s,q⟩ e ⟨E3,c3⟩ ⟨q1,q2,q3,q4,hl_1,h0_1,h1_1,h5_1⟩ hge t1 ho;have hE:=wA ho; subst hE;have hlen:=rep_len q1;simp only at hlen q1 q2 q3 q4 h1_1;simp only[simprocAttr, -Int.reduceNatCast',R1,b52_1,hl_1,h0_1,h1_1,h5_1,hlen,q4,eq_false hge];intro ht; subst ht;refine ai (fun _=> trivial) ⟨?_,q1,q2,q3⟩;simp only[simprocAttr, -Int.reduceNatCast',R1,qb,p52,Rs.ev,mapO,hl_1]
theorem dm52{x:List (List Int)}{k:Int}{r:(List (List Int))×Int}(hF:FM52 x k=some r)(h:Heap){v:V}{K:Ks}(hr:Deep.rep h v x K):∃h',res A 52 [v,V.int .i64 k] h=some (V.int .i64 r.2,h')∧Deep.rep h' v r.1 K∧(∀k,k < h.ents.length→¬K k→h'.ents[k]? =h.ents[k]?)∧h.ents.length≤h'.ents.length:=by
 obtain⟨h',w,q1,q2,q3⟩:=d52 hF h hr;exact⟨h',w,q1,fun k _ nk=> q2 k nk,by omega⟩
def F21_1_B(i:Int)(s:List (List (List Int))×Int):Option ((List (List (List Int))×Int)⊕(List (List (List Int))×Int)):=
 (getI s.1 i).bind fun r=>(F52 r s.2).bind fun q=>(setI s.1 i q.1).bind fun l=> some (.inl (l,q.2))
def F21_1_D(i:Int)(s:List (List (List Int))×Int):Option (List (List (List Int))×Int):=some s
def F21(l:List (List (List Int)))(k:Int):Option (List (List (List Int))×Int):=forR 0 (l.length:Int) F21_1_B F21_1_D (l,k)
theorem d21{l:List (List (List Int))}{k:Int}{r:List (List (List Int))×Int}(hF:F21 l k=some r)(h:Heap){v:V}{K:Ks}(hr:Deep.rep h v l K):
  ∃h',res A 21 [v,V.int .i64 k] h=some (V.int .i64 r.2,h')∧Deep.rep h' v r.1 K∧(∀k,¬K k→h'.ents[k]? =h.ents[k]?)∧h'.ents.length=h.ents.length:=by
 refine res_ex (f:=p21) rfl rfl rfl fun e hl he=>?_;have h0_0:e.at 0=v:=he 0 _ rfl;have h1_0:e.at 1=V.int .i64 k:=he 1 _ rfl;have hl_0:e.length=19:=hl;clear he hl;show W A b21 e h _;unfold F21 at hF;obtain⟨E,c⟩:=h;simp only[simprocAttr, -Int.reduceNatCast',R1,b21,hl_0,h0_0,h1_0];show W A (.block 0 (.loop true b21_1)) _ _ _;rw[qh];refine qv hF _ rfl (fun i s e h=> Deep.rep h v s.1 K∧(∀k,¬K k→h.ents[k]? =E[k]?)∧h.ents.length=E.length∧s.1.length=l.length∧e.length=19∧e.at 0=v∧e.at 1=V.int .i64 s.2∧e.at 5=V.int .i64 i) ?_ ?_ ?_
 ·refine⟨hr,fun _ _=> rfl,rfl,rfl,?_⟩
  simp only[simprocAttr, -Int.reduceNatCast',R1,hl_0,h0_0,h1_0]
 ·clear hl_0 h0_0 h1_0
  rintro i ⟨s,q⟩ e ⟨E3,c3⟩ ⟨q1,q2,q3,q4,hl_1,h0_1,h1_1,h5_1⟩ hlt hw oo ho;unfold F21_1_B at ho;simp only at ho q1 q2 q3 q4 h1_1;obtain⟨row,gr,ho⟩:=bS ho;obtain⟨ra,rb⟩:=qf gr;obtain⟨t,gt,ho⟩:=bS ho;obtain⟨s2,gs,ho⟩:=bS ho;have sm:s2=s.set i.toNat t.1:=setI_eq gs;have hE:=wA ho; subst hE;obtain⟨key,uid,vs,x1,K1,hm,a1,a2,a3,a4,a5,a6⟩:=rep_focus q1 rb;obtain⟨⟨E4,c4⟩,w1,r1,r2,r3⟩:=d52 gt ⟨E3,c3⟩ a4;have o1:=qw a2;simp only at a1 r2 r3;have hsl:s2.length=l.length:=by rw[sm,vA]; exact q4
  have r4:=a6 _ _ r1 fun k _ nk=> r2 k nk;rw[←sm]at r4;simp only[simprocAttr, -Int.reduceNatCast',R1,b21_1,hl_1,h0_1,h1_1,h5_1,eq_true hlt,hw,hm,q4,a1,ra,o1,qx,w1];refine ai rfl ⟨?_,fun k nk=>(r2 k fun p=> nk (a5 k p)).trans (q2 k nk),by rw[←q3]; exact r3,hsl,?_⟩
  ·rw[←q4,←hm]; exact r4
  ·simp only[simprocAttr, -Int.reduceNatCast',R1,hl_1,h0_1,h1_1,h5_1,hw,hm,q4]
 ·clear hl_0 h0_0 h1_0
  rintro i ⟨s,q⟩ e ⟨E3,c3⟩ ⟨q1,q2,q3,q4,hl_1,h0_1,h1_1,h5_1⟩ hge t1 ho;have hE:=wA ho; subst hE;have hlen:=rep_len q1;simp only at hlen q1 q2 q3 q4 h1_1;simp only[simprocAttr, -Int.reduceNatCast',R1,b21_1,hl_1,h0_1,h1_1,h5_1,hlen,q4,eq_false hge];intro ht; subst ht;refine ai (fun _=> trivial) ⟨?_,q1,q2,q3⟩;simp only[simprocAttr, -Int.reduceNatCast',R1,qb,p21,Rs.ev,mapO,hl_1]
def F20(d:List Int)(ms:List (List (List Int)))(k:Int):Option (List Int×List (List (List Int))×Int):=
 (F31 d k).bind fun q=>(F21 ms q.2).bind fun t=> some (q.1,t.1,t.2)
def FM20(x:GComplex)(k:Int):Option (GComplex×Int):=(F20 x.Dims x.Maps k).bind fun t=> some (⟨x.Prime,t.1,t.2.1⟩,t.2.2)
theorem d20{d:List Int}{ms:List (List (List Int))}{p k:Int}{r:List Int×List (List (List Int))×Int}(hF:F20 d ms k=some r)(h:Heap){dv mv:V}{K1 K2:Ks}(h1:Deep.rep h dv d K1)(h2:Deep.rep h mv ms K2)(hd:∀k,K1 k→¬K2 k):
  ∃h',res A 20 [V.agg [V.int .i64 p,dv,mv],V.int .i64 k] h=some (V.int .i64 r.2.2,h')∧Deep.rep h' dv r.1 K1∧Deep.rep h' mv r.2.1 K2∧(∀k,k < h.ents.length→¬K1 k→¬K2 k→h'.ents[k]? =h.ents[k]?)∧h.ents.length≤h'.ents.length:=by
 refine res_ex (f:=p20) rfl rfl rfl fun e hl he=>?_;have h0_0:e.at 0=V.agg [V.int .i64 p,dv,mv]:=he 0 _ rfl;have h1_0:e.at 1=V.int .i64 k:=he 1 _ rfl;have hl_0:e.length=14:=hl;clear he hl;show W A b20 e h _;unfold F20 at hF;obtain⟨q,gq,hF⟩:=bS hF;obtain⟨t,gt,hF⟩:=bS hF;cases hF;obtain⟨E,c⟩:=h;have pre:∀ (x:Nat×Option (List V)) k,k < E.length→(E++[x])[k]? =E[k]?:=fun x k hk=> List.getElem?_append_left hk;have n1:¬K1 E.length:=fun x=> by have:=Deep.bd h1 x; simp at this
 have n2:¬K2 E.length:=fun x=> by have:=Deep.bd h2 x; simp at this
 obtain⟨⟨E3,c3⟩,w1,a1,a2,a3⟩:=d31 gq ⟨E++[(c,some [V.int .i64 p,dv,mv])],c+1⟩ (Deep.frame h1 fun k hk=> pre _ k (Deep.bd h1 hk));simp only at a2 a3;have m1:E3[E.length]? =some (c,some [V.int .i64 p,dv,mv]):=(a2 _ n1).trans (qH _ _);have h2':Deep.rep ⟨E3,c3⟩ mv ms K2:=Deep.frame h2 fun k hk=>(a2 k fun x=> hd k x hk).trans (pre _ k (Deep.bd h2 hk));obtain⟨⟨E4,c4⟩,w2,b1,b2,b3⟩:=d21 gt ⟨E3,c3⟩ h2';simp only at b2 b3;have h1':Deep.rep ⟨E4,c4⟩ dv q.1 K1:=Deep.frame a1 fun k hk=> b2 k (hd k hk);simp only[simprocAttr,R1,b20,hl_0,h0_0,h1_0,qH,qx,w1,m1,w2];refine ai (fun _=> trivial) ⟨?_,h1',b1,fun k hk x y=>(b2 k y).trans ((a2 k x).trans (pre _ k hk)),by simp at a3; omega⟩;simp only[simprocAttr,R1,qb,p20,Rs.ev,mapO,hl_0]
theorem dm20{x:GComplex}{k:Int}{r:GComplex×Int}(hF:FM20 x k=some r)(h:Heap){v:V}{K:Ks}(hr:Deep.rep h v x K):∃h',res A 20 [v,V.int .i64 k] h=some (V.int .i64 r.2,h')∧Deep.rep h' v r.1 K∧(∀k,k < h.ents.length→¬K k→h'.ents[k]? =h.ents[k]?)∧h.ents.length≤h'.ents.length:=by
 obtain⟨vs,rfl,r0⟩:=hr;obtain⟨dv,mv,K1,K2,rfl,h1,h2,h3,h4⟩:=rec3_un r0;unfold FM20 at hF;obtain⟨t,gt,hF⟩:=bS hF;cases hF;obtain⟨h',w,q1,q2,q3,q4⟩:=d20 (p:=x.Prime) gt h h1 h2 h3;exact⟨h',w,⟨_,rfl,(rec3 q1 q2 h3).to h4⟩,fun k hk nk=> q3 k hk (fun y=> nk ((h4 k).2 (.inl y))) (fun y=> nk ((h4 k).2 (.inr y))),q4⟩
def FM26(x:GFiltered)(k:Int):Option (GFiltered×Int):=(FM20 x.Complex k).bind fun t=>(FM52 x.Levels t.2).bind fun u=> some (⟨t.1,u.1⟩,u.2)
theorem dm26{x:GFiltered}{k:Int}{r:GFiltered×Int}(hF:FM26 x k=some r)(h:Heap){v:V}{K:Ks}(hr:Deep.rep h v x K):∃h',res A 26 [v,V.int .i64 k] h=some (V.int .i64 r.2,h')∧Deep.rep h' v r.1 K∧(∀k,k < h.ents.length→¬K k→h'.ents[k]? =h.ents[k]?)∧h.ents.length≤h'.ents.length:=by
 obtain⟨vs,rfl,r0⟩:=hr;obtain⟨dv,mv,lv,K1,K2,K3,rfl,g1,g2,g3,d1,d2,d3,hK⟩:=rec4_un r0;refine res_ex (f:=p26) rfl rfl rfl fun e hl he=>?_;have h0_0:e.at 0=V.agg [V.int .i64 x.Complex.Prime,dv,mv,lv]:=he 0 _ rfl;have h1_0:e.at 1=V.int .i64 k:=he 1 _ rfl;have hl_0:e.length=14:=hl;clear he hl;show W A b26 e h _;unfold FM26 at hF;obtain⟨t,gt,hF⟩:=bS hF;obtain⟨u,gu,hF⟩:=bS hF;cases hF;obtain⟨E,c⟩:=h;have pre:∀ (x:Nat×Option (List V)) k,k < E.length→(E++[x])[k]? =E[k]?:=fun x k hk=> List.getElem?_append_left hk;have hc:Deep.rep ⟨E++[(c,some [V.int .i64 x.Complex.Prime,dv,mv,lv])],c+1⟩ (V.agg [V.int .i64 x.Complex.Prime,dv,mv]) x.Complex (fun k=> K1 k∨K2 k):=
  ⟨_,rfl,rec3 (Deep.frame g1 fun k hk=> pre _ k (Deep.bd g1 hk)) (Deep.frame g2 fun k hk=> pre _ k (Deep.bd g2 hk)) d1⟩
 obtain⟨⟨E3,c3⟩,w1,a1,a2,a3⟩:=dm20 gt _ hc;simp only[le1]at a2 a3;have n1:¬(K1 E.length∨K2 E.length):=fun q=> q.elim (fun x=> by have:=Deep.bd g1 x; simp at this) (fun x=> by have:=Deep.bd g2 x; simp at this);have n3:¬K3 E.length:=fun x=> by have:=Deep.bd g3 x; simp at this
 have m1:E3[E.length]? =some (c,some [V.int .i64 x.Complex.Prime,dv,mv,lv]):=(a2 _ (by omega) n1).trans (qH _ _);have g3':Deep.rep ⟨E3,c3⟩ lv x.Levels K3:=Deep.frame g3 fun k hk=>(a2 k (by have:=Deep.bd g3 hk; simp only at this; omega) (fun q=> q.elim (fun q=> d2 k q hk) (fun q=> d3 k q hk))).trans (pre _ k (Deep.bd g3 hk));obtain⟨⟨E4,c4⟩,w2,b1,b2,b3⟩:=dm52 gu _ g3';simp only at b2 b3;simp only[simprocAttr,R1,b26,hl_0,h0_0,h1_0,qH,qx,w1,m1,w2];have a1':Deep.rep ⟨E4,c4⟩ (V.agg [V.int .i64 x.Complex.Prime,dv,mv]) t.1 (fun k=> K1 k∨K2 k):=Deep.frame a1 fun k q=> b2 k (Deep.bd a1 q) (fun y=> q.elim (fun q=> d2 k q y) (fun q=> d3 k q y));obtain⟨vs,e1,r1⟩:=a1';obtain⟨v1,v2,J1,J2,rfl,q1,q2,q3,q4⟩:=rec3_un r1;simp only[V.agg.injEq,List.cons.injEq,V.int.injEq,true_and,and_true]at e1;obtain⟨e0,rfl,rfl⟩:=e1;refine ai (fun _=> trivial) ⟨?_,⟨_,by rw[e0],(rec4 q1 q2 b1 q3 (fun k y z=>(((q4 k).2 (.inl y)).elim (fun y=> d2 k y z) (fun y=> d3 k y z))) (fun k y z=>(((q4 k).2 (.inr y)).elim (fun y=> d2 k y z) (fun y=> d3 k y z)))).to fun k=> by rw[hK,←or_assoc,q4,or_assoc]⟩,fun k hk nk=>?_,by omega⟩
 ·simp only[simprocAttr,R1,qb,p26,Rs.ev,mapO,hl_0]
 ·rw[hK]at nk
  exact(b2 k (by omega) (fun y=> nk (.inr (.inr y)))).trans ((a2 k (by omega) (fun y=> nk (y.elim .inl fun y=> .inr (.inl y)))).trans (pre _ k hk))
def F43(a0:List Int)(a1:Int):Option Int:=
 (chk (a1 - (a0.length:Int))).bind fun x1=>
 if x1 < 0 then
  some (-1)
 else
  some x1
theorem s43(a0:List Int)(a1:Int){r:Int}(hF:F43 a0 a1=some r):ans A 43 [V.isl (a0.map enc),V.int .i64 a1]=some (enc r):=by
 refine qp (f:=p43) rfl rfl rfl fun e hl he=>?_;have h0_0:e.at 0=V.isl (a0.map enc):=he 0 _ rfl;have h1_0:e.at 1=V.int .i64 a1:=he 1 _ rfl;have hl_0:e.length=12:=hl;clear he hl;have h_0:=ai hl_0 (ai h0_0 h1_0);show W A b43 e ⟨[],0⟩ _;unfold F43 at hF;obtain⟨x1,gx1,hF⟩:=bS hF;have wx1:=qm gx1;by_cases c2:x1 < 0
 ·rw[if_pos c2]at hF
  cases hF;simp only[simprocAttr,R0,b43, *];exact qd (by simp only[simprocAttr,R0,qb,p43,Rs.ev,qa, *])
 ·rw[if_neg c2]at hF
  cases hF;simp only[simprocAttr,R0,b43, *];exact qd (by simp only[simprocAttr,R0,qb,p43,Rs.ev,qa, *])
def F44_1_B(a0:List (List Int))(v5_1:Int)(v1_1:Int):Option ((Int)⊕((Int)⊕Int)):=
 (getI a0 v5_1).bind fun x6=>
(F43 x6 v1_1).bind fun x8=>
if x8 < 0 then
 some (.inr (.inr (-1)))
else
 some (.inl x8)
def F44_1_D(a0:List (List Int))(v5_1:Int)(v1_1:Int):Option ((Int)⊕Int):=
 some (.inl v1_1)
def F44(a0:List (List Int))(a1:Int):Option Int:=
 (chk (a1 - (a0.length:Int))).bind fun x1=>
 if x1 < 0 then
  some (-1)
 else
  (forR 0 (a0.length:Int) (F44_1_B a0) (F44_1_D a0) x1).bind fun t11=> match t11 with
   | .inl zv1_1=>
    some zv1_1
   | .inr r12=> some r12
def I44_1(a0:List (List Int))(v5_1:Int)(v1_1:Int)(e:Env)(h:Heap):Prop:=
 ∃k4:Nat,h=⟨[],k4⟩∧e.length=27∧e.at 0=V.isl (a0.map enc)∧e.at 1=V.int .i64 v1_1∧e.at 5=V.int .i64 v5_1
def P44_1(a0:List (List Int))(t:(Int)⊕Int)(x:Ex)(e:Env)(h:Heap):Prop:=
 match t with
 | .inl zv1_1=> x= .normal∧∃k4:Nat,h=⟨[],k4⟩∧e.length=27∧e.at 1=V.int .i64 zv1_1
 | .inr r=> x= .ret∧Fin p44 (enc r) .ret e h
theorem l44_1(a0:List (List Int)){lo:Int}{s:Int}{t:(Int)⊕Int}(hF:forR lo (a0.length:Int) (F44_1_B a0) (F44_1_D a0) s=some t){e:Env}{h:Heap}(hI:I44_1 a0 lo s e h):W A c44_1 e h (P44_1 a0 t):=by
 show W A (.block 0 (.loop false b44_1)) e h _;rw[qh];refine qv hF 0 (by obtain⟨_,rfl,_⟩:=hI; rfl) (I44_1 a0) hI ?_ ?_
 ·rintro v5_1 v1_1 e h ⟨k4,rfl,h_3⟩ hlt hw o ho
  unfold F44_1_B at ho;obtain⟨x6,gx6,ho⟩:=bS ho;obtain⟨w7a,w7b⟩:=qf gx6;obtain⟨x8,gx8,ho⟩:=bS ho;have w9:=s43 x6 v1_1 gx8;by_cases c10:x8 < 0
  ·rw[if_pos c10]at ho
   cases ho;simp only[simprocAttr,R0,b44_1, *];intro ht;(first|subst ht|cases t);simp only[simprocAttr,RR,RB];exact ai rfl (qd (by simp only[simprocAttr,R0,qb,p44,Rs.ev,qa, *]))
  ·rw[if_neg c10]at ho
   cases ho;simp only[simprocAttr,R0,b44_1, *];refine ai rfl (ei _ (ai rfl ?_));simp only[simprocAttr,R0, *]
 ·rintro v5_1 v1_1 e h ⟨k4,rfl,h_3⟩ hge t1 ho
  unfold F44_1_D at ho;cases ho;simp only[simprocAttr,R0,b44_1, *];intro ht;(first|subst ht|cases t);refine ai rfl (ei _ (ai rfl ?_));simp only[simprocAttr,R0, *]
theorem s44(a0:List (List Int))(a1:Int){r:Int}(hF:F44 a0 a1=some r):ans A 44 [V.isl (a0.map enc),V.int .i64 a1]=some (enc r):=by
 refine qp (f:=p44) rfl rfl rfl fun e hl he=>?_;have h0_0:e.at 0=V.isl (a0.map enc):=he 0 _ rfl;have h1_0:e.at 1=V.int .i64 a1:=he 1 _ rfl;have hl_0:e.length=27:=hl;clear he hl;have h_0:=ai hl_0 (ai h0_0 h1_0);show W A b44 e ⟨[],0⟩ _;unfold F44 at hF;obtain⟨x1,gx1,hF⟩:=bS hF;have wx1:=qm gx1;by_cases c2:x1 < 0
 ·rw[if_pos c2]at hF
  cases hF;simp only[simprocAttr,R0,b44, *];exact qd (by simp only[simprocAttr,R0,qb,p44,Rs.ev,qa, *])
 ·rw[if_neg c2]at hF
  obtain⟨t11,gt11,hF⟩:=bS hF;rcases t11 with zv1_1|r12
  ·dsimp only at hF
   simp only[simprocAttr,R0,b44, *];refine W.mono (l44_1 a0 gt11 (ei _ (ai rfl ?_))) ?_
   ·simp only[simprocAttr,R0, *]
   rintro _ e _ ⟨rfl,k4,rfl,h_5⟩;cases hF;simp only[simprocAttr,R0, *];exact qd (by simp only[simprocAttr,R0,qb,p44,Rs.ev,qa, *])
  ·dsimp only at hF
   cases hF;simp only[simprocAttr,R0,b44, *];refine W.mono (l44_1 a0 gt11 (ei _ (ai rfl ?_))) ?_
   ·simp only[simprocAttr,R0, *]
   rintro _ e h ⟨rfl,hq⟩;simp only[simprocAttr,RR,RB];exact hq
def F11_1_B(a0:List (List (List Int)))(v5_1:Int)(v1_1:Int):Option ((Int)⊕((Int)⊕Int)):=
 (getI a0 v5_1).bind fun x6=>
(F44 x6 v1_1).bind fun x8=>
if x8 < 0 then
 some (.inr (.inr (-1)))
else
 some (.inl x8)
def F11_1_D(a0:List (List (List Int)))(v5_1:Int)(v1_1:Int):Option ((Int)⊕Int):=
 some (.inl v1_1)
def F11(a0:List (List (List Int)))(a1:Int):Option Int:=
 (chk (a1 - (a0.length:Int))).bind fun x1=>
 if x1 < 0 then
  some (-1)
 else
  (forR 0 (a0.length:Int) (F11_1_B a0) (F11_1_D a0) x1).bind fun t11=> match t11 with
   | .inl zv1_1=>
    some zv1_1
   | .inr r12=> some r12
def I11_1(a0:List (List (List Int)))(v5_1:Int)(v1_1:Int)(e:Env)(h:Heap):Prop:=
 ∃k4:Nat,h=⟨[],k4⟩∧e.length=27∧e.at 0=V.isl (a0.map enc)∧e.at 1=V.int .i64 v1_1∧e.at 5=V.int .i64 v5_1
def P11_1(a0:List (List (List Int)))(t:(Int)⊕Int)(x:Ex)(e:Env)(h:Heap):Prop:=
 match t with
 | .inl zv1_1=> x= .normal∧∃k4:Nat,h=⟨[],k4⟩∧e.length=27∧e.at 1=V.int .i64 zv1_1
 | .inr r=> x= .ret∧Fin p11 (enc r) .ret e h
theorem l11_1(a0:List (List (List Int))){lo:Int}{s:Int}{t:(Int)⊕Int}(hF:forR lo (a0.length:Int) (F11_1_B a0) (F11_1_D a0) s=some t){e:Env}{h:Heap}(hI:I11_1 a0 lo s e h):W A c11_1 e h (P11_1 a0 t):=by
 show W A (.block 0 (.loop false b11_1)) e h _;rw[qh];refine qv hF 0 (by obtain⟨_,rfl,_⟩:=hI; rfl) (I11_1 a0) hI ?_ ?_
 ·rintro v5_1 v1_1 e h ⟨k4,rfl,h_3⟩ hlt hw o ho
  unfold F11_1_B at ho;obtain⟨x6,gx6,ho⟩:=bS ho;obtain⟨w7a,w7b⟩:=qf gx6;obtain⟨x8,gx8,ho⟩:=bS ho;have w9:=s44 x6 v1_1 gx8;by_cases c10:x8 < 0
  ·rw[if_pos c10]at ho
   cases ho;simp only[simprocAttr,R0,b11_1, *];intro ht;(first|subst ht|cases t);simp only[simprocAttr,RR,RB];exact ai rfl (qd (by simp only[simprocAttr,R0,qb,p11,Rs.ev,qa, *]))
  ·rw[if_neg c10]at ho
   cases ho;simp only[simprocAttr,R0,b11_1, *];refine ai rfl (ei _ (ai rfl ?_));simp only[simprocAttr,R0, *]
 ·rintro v5_1 v1_1 e h ⟨k4,rfl,h_3⟩ hge t1 ho
  unfold F11_1_D at ho;cases ho;simp only[simprocAttr,R0,b11_1, *];intro ht;(first|subst ht|cases t);refine ai rfl (ei _ (ai rfl ?_));simp only[simprocAttr,R0, *]
theorem s11(a0:List (List (List Int)))(a1:Int){r:Int}(hF:F11 a0 a1=some r):ans A 11 [V.isl (a0.map enc),V.int .i64 a1]=some (enc r):=by
 refine qp (f:=p11) rfl rfl rfl fun e hl he=>?_;have h0_0:e.at 0=V.isl (a0.map enc):=he 0 _ rfl;have h1_0:e.at 1=V.int .i64 a1:=he 1 _ rfl;have hl_0:e.length=27:=hl;clear he hl;have h_0:=ai hl_0 (ai h0_0 h1_0);show W A b11 e ⟨[],0⟩ _;unfold F11 at hF;obtain⟨x1,gx1,hF⟩:=bS hF;have wx1:=qm gx1;by_cases c2:x1 < 0
 ·rw[if_pos c2]at hF
  cases hF;simp only[simprocAttr,R0,b11, *];exact qd (by simp only[simprocAttr,R0,qb,p11,Rs.ev,qa, *])
 ·rw[if_neg c2]at hF
  obtain⟨t11,gt11,hF⟩:=bS hF;rcases t11 with zv1_1|r12
  ·dsimp only at hF
   simp only[simprocAttr,R0,b11, *];refine W.mono (l11_1 a0 gt11 (ei _ (ai rfl ?_))) ?_
   ·simp only[simprocAttr,R0, *]
   rintro _ e _ ⟨rfl,k4,rfl,h_5⟩;cases hF;simp only[simprocAttr,R0, *];exact qd (by simp only[simprocAttr,R0,qb,p11,Rs.ev,qa, *])
  ·dsimp only at hF
   cases hF;simp only[simprocAttr,R0,b11, *];refine W.mono (l11_1 a0 gt11 (ei _ (ai rfl ?_))) ?_
   ·simp only[simprocAttr,R0, *]
   rintro _ e h ⟨rfl,hq⟩;simp only[simprocAttr,RR,RB];exact hq
def F10(a0:GComplex)(a1:Int):Option Int:=
 (F43 a0.Dims a1).bind fun x1=>
 if x1 < 0 then
  some (-1)
 else
  (F11 a0.Maps x1).bind fun x4=>
  if x4 < 0 then
   some (-1)
  else
   some x4
theorem s10(a0:GComplex)(a1:Int){r:Int}(hF:F10 a0 a1=some r):ans A 10 [(eC a0),V.int .i64 a1]=some (enc r):=by
 refine qp (f:=p10) rfl rfl rfl fun e hl he=>?_;have h0_0:e.at 0=(eC a0):=he 0 _ rfl;have h1_0:e.at 1=V.int .i64 a1:=he 1 _ rfl;have hl_0:e.length=18:=hl;clear he hl;have h_0:=ai hl_0 (ai h0_0 h1_0);show W A b10 e ⟨[],0⟩ _;unfold F10 at hF;obtain⟨x1,gx1,hF⟩:=bS hF;have w2:=s43 a0.Dims a1 gx1;by_cases c3:x1 < 0
 ·rw[if_pos c3]at hF
  cases hF;simp only[simprocAttr,R0,b10, *];exact qd (by simp only[simprocAttr,R0,qb,p10,Rs.ev,qa, *])
 ·rw[if_neg c3]at hF
  obtain⟨x4,gx4,hF⟩:=bS hF;have w5:=s11 a0.Maps x1 gx4;by_cases c6:x4 < 0
  ·rw[if_pos c6]at hF
   cases hF;simp only[simprocAttr,R0,b10, *];exact qd (by simp only[simprocAttr,R0,qb,p10,Rs.ev,qa, *])
  ·rw[if_neg c6]at hF
   cases hF;simp only[simprocAttr,R0,b10, *];exact qd (by simp only[simprocAttr,R0,qb,p10,Rs.ev,qa, *])
def F37(a0:GFiltered)(a1:Int):Option Int:=
 (F10 a0.Complex a1).bind fun x1=>
 if x1 < 0 then
  some (-1)
 else
  (F44 a0.Levels x1).bind fun x4=>
  if x4 < 0 then
   some (-1)
  else
   some x4
theorem s37(a0:GFiltered)(a1:Int){r:Int}(hF:F37 a0 a1=some r):ans A 37 [(eF a0),V.int .i64 a1]=some (enc r):=by
 refine qp (f:=p37) rfl rfl rfl fun e hl he=>?_;have h0_0:e.at 0=(eF a0):=he 0 _ rfl;have h1_0:e.at 1=V.int .i64 a1:=he 1 _ rfl;have hl_0:e.length=18:=hl;clear he hl;have h_0:=ai hl_0 (ai h0_0 h1_0);show W A b37 e ⟨[],0⟩ _;unfold F37 at hF;obtain⟨x1,gx1,hF⟩:=bS hF;have w2:=s10 a0.Complex a1 gx1;by_cases c3:x1 < 0
 ·rw[if_pos c3]at hF
  cases hF;simp only[simprocAttr,R0,b37, *];exact qd (by simp only[simprocAttr,R0,qb,p37,Rs.ev,qa, *])
 ·rw[if_neg c3]at hF
  obtain⟨x4,gx4,hF⟩:=bS hF;have w5:=s44 a0.Levels x1 gx4;by_cases c6:x4 < 0
  ·rw[if_pos c6]at hF
   cases hF;simp only[simprocAttr,R0,b37, *];exact qd (by simp only[simprocAttr,R0,qb,p37,Rs.ev,qa, *])
  ·rw[if_neg c6]at hF
   cases hF;simp only[simprocAttr,R0,b37, *];exact qd (by simp only[simprocAttr,R0,qb,p37,Rs.ev,qa, *])
def F47_1_B(a0:List Int)(v4_1:Int)(o0_1:(List Int)):Option (((List Int))⊕((List Int))):=
 (getI a0 v4_1).bind fun x7=>
(getI o0_1 v4_1).bind fun x9=>
(setI o0_1 v4_1 x7).bind fun l11=>
some (.inl l11)
def F47_1_D(a0:List Int)(v4_1:Int)(o0_1:(List Int)):Option ((List Int)):=
 some o0_1
def F47(a0:List Int):Option (List Int):=
 (mkL 8 (a0.length:Int) 0).bind fun l1=>
 (forR 0 (a0.length:Int) (F47_1_B a0) (F47_1_D a0) l1).bind fun zo0_1=>
 some zo0_1
def I47_1(a0:List Int)(v4_1:Int)(o0_1:(List Int))(e:Env)(h:Heap):Prop:=
 ∃u4 k5:Nat,h=⟨[(u4,some (o0_1.map enc))],k5⟩∧e.length=22∧e.at 0=V.isl (a0.map enc)∧e.at 3=V.sl 0 u4 0 o0_1.length 1∧e.at 4=V.int .i64 v4_1
def P47_1(a0:List Int)(zo0_1:(List Int))(x:Ex)(e:Env)(h:Heap):Prop:=
 x= .normal∧∃u4 k5:Nat,h=⟨[(u4,some (zo0_1.map enc))],k5⟩∧e.length=22∧e.at 3=V.sl 0 u4 0 zo0_1.length 1
theorem l47_1(a0:List Int){lo:Int}{s:(List Int)}{t:(List Int)}(hF:forR lo (a0.length:Int) (F47_1_B a0) (F47_1_D a0) s=some t){e:Env}{h:Heap}(hI:I47_1 a0 lo s e h):W A c47_1 e h (P47_1 a0 t):=by
 show W A (.block 0 (.loop false b47_1)) e h _;rw[qh];refine qv hF 1 (by obtain⟨_,_,rfl,_⟩:=hI; rfl) (I47_1 a0) hI ?_ ?_
 ·rintro v4_1 o0_1 e h ⟨u4,k5,rfl,h_3⟩ hlt hw o ho
  unfold F47_1_B at ho;obtain⟨x7,gx7,ho⟩:=bS ho;obtain⟨w8a,w8b⟩:=qf gx7;obtain⟨x9,gx9,ho⟩:=bS ho;obtain⟨w10a,w10b⟩:=qf gx9;have w10c:=za gx9;have w10d:List.drop (Int.toNat v4_1) (o0_1.map enc)=(V.int .i64 x9)::List.drop ((Int.toNat v4_1)+1) (o0_1.map enc):=jG w10b;obtain⟨l11,gl11,ho⟩:=bS ho;obtain⟨w12a,w12b,w12c,w12d,w12e⟩:=setI_w gl11;replace w12e:List.take (Int.toNat v4_1) (o0_1.map enc)++[V.int .i64 x7]++List.drop (Int.toNat v4_1+1) (o0_1.map enc)=List.map enc l11:=w12e;cases ho;simp only[simprocAttr,R0,b47_1, *];refine ai rfl (ei _ (ei _ (ai rfl ?_)));simp only[simprocAttr,R0, *]
 ·rintro v4_1 o0_1 e h ⟨u4,k5,rfl,h_3⟩ hge t1 ho
  unfold F47_1_D at ho;cases ho;simp only[simprocAttr,R0,b47_1, *];intro ht;(first|subst ht|cases t);refine ai rfl (ei _ (ei _ (ai rfl ?_)));simp only[simprocAttr,R0, *]
theorem t47(a0:List Int){r:List Int}(hF:F47 a0=some r):tans A 47 [1] [V.isl (a0.map enc)]=some (enc r):=by
 refine tans_of (f:=p47) rfl rfl rfl fun e hl he=>?_;have h0_0:e.at 0=V.isl (a0.map enc):=he 0 _ rfl;have hl_0:e.length=22:=hl;clear he hl;show W A b47 e ⟨[],0⟩ _;unfold F47 at hF;obtain⟨l1,gl1,hF⟩:=bS hF;obtain⟨w2a,w2b,w2c,w2d,w2e⟩:=mkL_w gl1;replace w2e:(List.replicate (Int.toNat (a0.length:Int)) [V.int .i64 0]).flatten=List.map enc l1:=w2e;obtain⟨zo0_1,gt13,hF⟩:=bS hF;simp only[simprocAttr, -Int.reduceNatCast',R0,b47, *];refine W.mono (l47_1 a0 gt13 (ei _ (ei _ (ai rfl ?_)))) ?_
 ·simp only[simprocAttr, -Int.reduceNatCast',R0, *]
 rintro _ e _ ⟨rfl,u4,k5,rfl,hl_6,h3_6⟩;have hE:=wA hF; subst hE;simp only[simprocAttr, -Int.reduceNatCast',R0, *];exact tfin_ret (by simp only[simprocAttr, -Int.reduceNatCast',R0,qb,p47,Rs.ev,qa,frzs (α:=Int) zo0_1,zd (α:=Int) zo0_1, *])
def F48_1_B(a0:List (List Int))(v4_1:Int)(o0_1:(List (List Int))):Option (((List (List Int)))⊕((List (List Int)))):=
 (getI a0 v4_1).bind fun x7=>
(F47 x7).bind fun x9=>
(getI o0_1 v4_1).bind fun x11=>
(setI o0_1 v4_1 x9).bind fun l13=>
some (.inl l13)
def F48_1_D(a0:List (List Int))(v4_1:Int)(o0_1:(List (List Int))):Option ((List (List Int))):=
 some o0_1
def F48(a0:List (List Int)):Option (List (List Int)):=
 (mkL 24 (a0.length:Int) ([]:List Int)).bind fun l1=>
 (forR 0 (a0.length:Int) (F48_1_B a0) (F48_1_D a0) l1).bind fun zo0_1=>
 some zo0_1
theorem d48(a0:List (List Int)){r:List (List Int)}(hF:F48 a0=some r):∃v h',res A 48 [V.isl (a0.map enc)] Heap.empty=some (v,h')∧∃K,Deep.rep h' v r K:=by
 refine res_dp (f:=p48) rfl rfl rfl fun e hl he=>?_;have h0_0:e.at 0=V.isl (a0.map enc):=he 0 _ rfl;have hl_0:e.length=23:=hl;clear he hl;show W A b48 e ⟨[],0⟩ _;unfold F48 at hF;obtain⟨l1,gl1,hF⟩:=bS hF;obtain⟨zo,gt,hF⟩:=bS hF;have hE:=wA hF; subst hE;obtain⟨w1a,w1b,w1c,w1d⟩:=mkL_deep gl1;simp only[wM]at w1d;have w1e:(List.replicate (Int.toNat (a0.length:Int)) [V.nils]).flatten=List.replicate a0.length V.nils:=by rw[wM,List.flatten_replicate_singleton]
 subst w1d;simp only[simprocAttr, -Int.reduceNatCast',R1,b48,hl_0,h0_0,w1a,w1b,w1c,w1e,wM];show W A (.block 0 (.loop true b48_1)) _ _ _;rw[qh];refine qv gt _ rfl (fun i l e h=>∃vs K,h.ents[0]? =some (0,some vs)∧reps h vs l K∧¬K 0∧l.length=a0.length∧e.length=23∧e.at 0=V.isl (a0.map enc)∧e.at 3=V.sl 0 0 0 a0.length 1∧e.at 4=V.int .i64 i) ?_ ?_ ?_
 ·refine⟨_,fun _=> False,rfl,by rw[List.flatten_replicate_singleton]; exact reps_nils _ _,fun x=> x,by simp,?_⟩
  simp only[simprocAttr, -Int.reduceNatCast',R1,hl_0,h0_0]
 ·rintro i l e ⟨E,c⟩ ⟨vs,K,g1,g2,g3,g4,hl_1,h0_1,h3_1,h4_1⟩ hlt hw o ho
  unfold F48_1_B at ho;obtain⟨x7,gx7,ho⟩:=bS ho;obtain⟨w6a,w6b⟩:=qf gx7;obtain⟨x9,gx9,ho⟩:=bS ho;have w8:=t47 x7 gx9;obtain⟨x11,gx11,ho⟩:=bS ho;obtain⟨l13,gl13,ho⟩:=bS ho;have sm:l13=l.set i.toNat x9:=setI_eq gl13;have hE:=wA ho; subst hE;have hil:i.toNat < l.length:=by omega
  have hln:=g2.len;have hE0:0 < E.length:=(List.getElem?_eq_some_iff.1 g1).1;obtain⟨x,K1,K2,f1,f2,f3,f4,f5⟩:=g2.focus hil;have p0:∀y,(E++[y])[0]? =some (0,some vs):=fun y=>(List.getElem?_append_left hE0).trans g1;have hs:List.take i.toNat vs++[V.sl E.length c 0 x9.length 1]++List.drop (i.toNat+1) vs=vs.set i.toNat (V.sl E.length c 0 x9.length 1):=by
   rw[List.set_eq_take_append_cons_drop,if_pos (by omega)]; simp
  have hle:i.toNat+1≤vs.length:=by omega
  simp only[simprocAttr, -Int.reduceNatCast',R1,b48_1,hl_1,h0_1,h3_1,h4_1,eq_true hlt,hw,w6a,w6b,w8,qL,zI,p0,hs,hle];have r1:=f5 ⟨(E++[(c,some (x9.map enc))]).set 0 (0,some (vs.set i.toNat (V.sl E.length c 0 x9.length 1))),c+1⟩ (V.sl E.length c 0 x9.length 1) x9 (fun k=> k=E.length) (fun k=> k=E.length∨K2 k)
   (int_row ((qI (by omega)).trans (qH _ _)) fun k=> yH)
   (fun k q=> xh (fun e=> g3 (e▸(f4 k).2 (.inr q))) (g2.bd ((f4 k).2 (.inr q))))
   (fun k q q2=> by have:=g2.bd ((f4 k).2 (.inr q2)); simp only at this; omega) (fun k=> yH)
  refine ai rfl ⟨_,fun k=> k=E.length∨K2 k,qy (by simp),by rw[sm]; exact r1,fun q=> q.elim (fun q=> by omega) (fun q=> g3 ((f4 0).2 (.inr q))),by rw[sm,vA]; exact g4,?_⟩;simp only[simprocAttr, -Int.reduceNatCast',R1,hl_1,h0_1,h3_1,h4_1,hw]
 ·rintro i l e ⟨E,c⟩ ⟨vs,K,g1,g2,g3,g4,hl_1,h0_1,h3_1,h4_1⟩ hge t1 ho
  unfold F48_1_D at ho;have hE:=wA ho; subst hE;simp only[simprocAttr, -Int.reduceNatCast',R1,b48_1,hl_1,h0_1,h3_1,h4_1,eq_false hge];intro ht; subst ht;refine ai (fun _=> trivial) ⟨_,by simp only[simprocAttr, -Int.reduceNatCast',R1,qb,p48,Rs.ev,hl_1]; rfl,fun k=> k=0∨K k,.inr ⟨0,0,vs,K,by rw[g4],g1,g2,g3,fun k=> yH⟩⟩
theorem x48(a0:List (List Int)){r:List (List Int)}(hF:F48 a0=some r):tans A 48 [1,1] [V.isl (a0.map enc)]=some (enc r):=jC (α:=List (List Int)) (by decide) (d48 a0 hF)
def F13_1_B(a0:List (List (List Int)))(v4_1:Int)(o0_1:(List (List (List Int)))):Option (((List (List (List Int))))⊕((List (List (List Int))))):=
 (getI a0 v4_1).bind fun x7=>
(F48 x7).bind fun x9=>
(getI o0_1 v4_1).bind fun x11=>
(setI o0_1 v4_1 x9).bind fun l13=>
some (.inl l13)
def F13_1_D(a0:List (List (List Int)))(v4_1:Int)(o0_1:(List (List (List Int)))):Option ((List (List (List Int)))):=
 some o0_1
def F13(a0:List (List (List Int))):Option (List (List (List Int))):=
 (mkL 24 (a0.length:Int) ([]:List (List Int))).bind fun l1=>
 (forR 0 (a0.length:Int) (F13_1_B a0) (F13_1_D a0) l1).bind fun zo0_1=>
 some zo0_1
theorem d13(a0:List (List (List Int))){r:List (List (List Int))}(hF:F13 a0=some r):∃v h',res A 13 [V.isl (a0.map enc)] Heap.empty=some (v,h')∧∃K,Deep.rep h' v r K:=by
 refine res_dp (f:=p13) rfl rfl rfl fun e hl he=>?_;have h0_0:e.at 0=V.isl (a0.map enc):=he 0 _ rfl;have hl_0:e.length=23:=hl;clear he hl;show W A b13 e ⟨[],0⟩ _;unfold F13 at hF;obtain⟨l1,gl1,hF⟩:=bS hF;obtain⟨zo,gt,hF⟩:=bS hF;have hE:=wA hF; subst hE;obtain⟨w1a,w1b,w1c,w1d⟩:=mkL_deep gl1;simp only[wM]at w1d;have w1e:(List.replicate (Int.toNat (a0.length:Int)) [V.nils]).flatten=List.replicate a0.length V.nils:=by rw[wM,List.flatten_replicate_singleton]
 subst w1d;simp only[simprocAttr, -Int.reduceNatCast',R1,b13,hl_0,h0_0,w1a,w1b,w1c,w1e,wM];show W A (.block 0 (.loop true b13_1)) _ _ _;rw[qh];refine qv gt _ rfl (fun i l e h=>∃vs K,h.ents[0]? =some (0,some vs)∧reps h vs l K∧¬K 0∧l.length=a0.length∧e.length=23∧e.at 0=V.isl (a0.map enc)∧e.at 3=V.sl 0 0 0 a0.length 1∧e.at 4=V.int .i64 i) ?_ ?_ ?_
 ·refine⟨_,fun _=> False,rfl,by rw[List.flatten_replicate_singleton]; exact reps_nils _ _,fun x=> x,by simp,?_⟩
  simp only[simprocAttr, -Int.reduceNatCast',R1,hl_0,h0_0]
 ·rintro i l e ⟨E,c⟩ ⟨vs,K,g1,g2,g3,g4,hl_1,h0_1,h3_1,h4_1⟩ hlt hw o ho
  unfold F13_1_B at ho;obtain⟨x7,gx7,ho⟩:=bS ho;obtain⟨w6a,w6b⟩:=qf gx7;obtain⟨x9,gx9,ho⟩:=bS ho;have w8:=x48 x7 gx9;obtain⟨x11,gx11,ho⟩:=bS ho;obtain⟨l13,gl13,ho⟩:=bS ho;have sm:l13=l.set i.toNat x9:=setI_eq gl13;have hE:=wA ho; subst hE;have hil:i.toNat < l.length:=by omega
  have hln:=g2.len;have hE0:0 < E.length:=(List.getElem?_eq_some_iff.1 g1).1;obtain⟨x,K1,K2,f1,f2,f3,f4,f5⟩:=g2.focus hil;obtain⟨v,⟨E1,c1⟩,t1,t2,t3,t4⟩:=thaw_deep (α:=List (List Int)) (by decide) x9 ⟨E,c⟩;have t1':thaw 16 [1,1] (V.isl (x9.map enc)) ⟨E,c⟩=some (v,⟨E1,c1⟩):=t1;obtain⟨v1,v2⟩:=rep_one t2;simp only at t2 t3 t4 g1;have p0:E1[0]? =some (0,some vs):=(t4 0 hE0).trans g1;have hs:List.take i.toNat vs++[v]++List.drop (i.toNat+1) vs=vs.set i.toNat (v):=by
   rw[List.set_eq_take_append_cons_drop,if_pos (by omega)]; simp
  have hle:i.toNat+1≤vs.length:=by omega
  simp only[simprocAttr, -Int.reduceNatCast',R1,b13_1,hl_1,h0_1,h3_1,h4_1,eq_true hlt,hw,w6a,w6b,w8,qL,t1',v1,v2,p0,hs,hle];have r1:=f5 ⟨E1.set 0 (0,some (vs.set i.toNat v)),c1⟩ v x9 (fun k=> E.length≤k∧k < E1.length) (fun k=>(E.length≤k∧k < E1.length)∨K2 k)
   (Deep.frame t2 fun k q=> qI (by omega))
   (fun k q=>(qI (E:=E1) (key:=0) (k:=k) (fun e:k=0=> g3 (e▸(f4 k).2 (.inr q)))).trans (t4 k (g2.bd ((f4 k).2 (.inr q)))))
   (fun k q q2=> by have:=g2.bd ((f4 k).2 (.inr q2)); simp only at this; omega) (fun k=> yH)
  refine ai rfl ⟨_,fun k=>(E.length≤k∧k < E1.length)∨K2 k,qy (by omega),by rw[sm]; exact r1,fun q=> q.elim (fun q=> by omega) (fun q=> g3 ((f4 0).2 (.inr q))),by rw[sm,vA]; exact g4,?_⟩;simp only[simprocAttr, -Int.reduceNatCast',R1,hl_1,h0_1,h3_1,h4_1,hw]
 ·rintro i l e ⟨E,c⟩ ⟨vs,K,g1,g2,g3,g4,hl_1,h0_1,h3_1,h4_1⟩ hge t1 ho
  unfold F13_1_D at ho;have hE:=wA ho; subst hE;simp only[simprocAttr, -Int.reduceNatCast',R1,b13_1,hl_1,h0_1,h3_1,h4_1,eq_false hge];intro ht; subst ht;refine ai (fun _=> trivial) ⟨_,by simp only[simprocAttr, -Int.reduceNatCast',R1,qb,p13,Rs.ev,hl_1]; rfl,fun k=> k=0∨K k,.inr ⟨0,0,vs,K,by rw[g4],g1,g2,g3,fun k=> yH⟩⟩
theorem x13(a0:List (List (List Int))){r:List (List (List Int))}(hF:F13 a0=some r):tans A 13 [1,1,1] [V.isl (a0.map enc)]=some (enc r):=jC (α:=List (List (List Int))) (by decide) (d13 a0 hF)
def F12(a0:GComplex):Option GComplex:=
 (F47 a0.Dims).bind fun x1=>
 (F13 a0.Maps).bind fun x3=>
 some ⟨a0.Prime,x1,x3⟩
theorem d12(x:GComplex){r:GComplex}(hF:F12 x=some r):∃v h',res A 12 [(eC x)] Heap.empty=some (v,h')∧∃dv mv,∃K1 K2:Ks,v=V.agg [V.int .i64 r.Prime,dv,mv]∧Deep.rep h' dv r.Dims K1∧Deep.rep h' mv r.Maps K2∧∀k,K1 k→¬K2 k:=by
 refine res_dp (f:=p12) rfl rfl rfl fun e hl he=>?_;have h0_0:e.at 0=(eC x):=he 0 _ rfl;have hl_0:e.length=16:=hl;clear he hl;show W A b12 e ⟨[],0⟩ _;unfold F12 at hF;obtain⟨d,gd,hF⟩:=bS hF;have w1:=t47 x.Dims gd;obtain⟨ms,gm,hF⟩:=bS hF;have w2:=x13 x.Maps gm;cases hF;obtain⟨mv,⟨E1,c1⟩,t1,t2,t3,t4⟩:=thaw_deep (α:=List (List (List Int))) (by decide) ms ⟨[(0,none),(1,some [V.int .i64 0,V.nils,V.nils]),(2,some [V.int .i64 x.Prime,V.sl 3 3 0 d.length 1,V.nils]),(3,some (d.map enc))],4⟩;have t1':thaw 16 [1,1,1] (V.isl (ms.map enc)) ⟨[(0,none),(1,some [V.int .i64 0,V.nils,V.nils]),(2,some [V.int .i64 x.Prime,V.sl 3 3 0 d.length 1,V.nils]),(3,some (d.map enc))],4⟩=some (mv,⟨E1,c1⟩):=t1;obtain⟨v1,v2⟩:=rep_one t2;simp only[vI,vH,wP,Nat.reduceAdd]at t2 t3 t4;have m1:E1[1]? =some (1,some [V.int .i64 0,V.nils,V.nils]):=t4 1 (by decide);have m2:E1[2]? =some (2,some [V.int .i64 x.Prime,V.sl 3 3 0 d.length 1,V.nils]):=t4 2 (by decide);have m3:E1[3]? =some (3,some (d.map enc)):=t4 3 (by decide);have n1:∀z,(E1.set 2 z)[1]? =_:=fun z=>(qI (by decide)).trans m1;have n2:∀z,(E1.set 2 z)[2]? =some z:=fun z=> qy (by omega);simp only[simprocAttr,R0,b12,qL,zI,t1',v1,v2,m1,m2,n1,n2, *];refine ai (fun _=> trivial) ⟨_,by simp only[simprocAttr,R0,qb,p12,Rs.ev,qy (show 1 < (E1.set 2 (2,some [V.int .i64 x.Prime,V.sl 3 3 0 d.length 1,mv])).length by simp; omega), *],V.sl 3 3 0 d.length 1,mv,fun k=> k=3,_,rfl,int_row ((qI (by decide)).trans ((qI (by decide)).trans m3)) (fun k=> yH),Deep.frame t2 fun k q=>(qI (by omega)).trans (qI (by omega)),fun k q=> by omega⟩
theorem x12(x:GComplex){r:GComplex}(hF:F12 x=some r):tans A 12 [1,1,1] [(eC x)]=some ((eC r)):=by
 obtain⟨v,h',h1,dv,mv,K1,K2,rfl,h2,h3,h4⟩:=d12 x hF;exact tans_agg2 h1 h2 h3 h4
def F40(a0:GFiltered):Option GFiltered:=
 (F12 a0.Complex).bind fun x1=>
 (F48 a0.Levels).bind fun x3=>
 some ⟨x1,x3⟩
theorem d40(x:GFiltered){r:GFiltered}(hF:F40 x=some r):∃v h',res A 40 [(eF x)] Heap.empty=some (v,h')∧∃K,Deep.rep h' v r K:=by
 refine res_dp (f:=p40) rfl rfl rfl fun e hl he=>?_;have h0_0:e.at 0=(eF x):=he 0 _ rfl;have hl_0:e.length=13:=hl;clear he hl;show W A b40 e ⟨[],0⟩ _;unfold F40 at hF;obtain⟨o,go,hF⟩:=bS hF;obtain⟨lv,gl,hF⟩:=bS hF;cases hF;have w1:=x12 x.Complex go;have w2:=x48 x.Levels gl;obtain⟨_,⟨E1,c1⟩,t1,⟨_,rfl,t2⟩,t3,t4⟩:=thaw_deep (α:=GComplex) (by decide) o ⟨[(0,none),(1,some [V.int .i64 0,V.nils,V.nils,V.nils]),(2,some [V.int .i64 0,V.nils,V.nils,V.nils])],3⟩;obtain⟨dv,m,K1,K2,rfl,t5,t6,t7,t8⟩:=rec3_un t2;simp only[vI,vH,wP,Nat.reduceAdd]at t3 t4 t8;have t1':thaw 16 [1,1,1] ((eC o)) ⟨[(0,none),(1,some [V.int .i64 0,V.nils,V.nils,V.nils]),(2,some [V.int .i64 0,V.nils,V.nils,V.nils])],3⟩=some (V.agg [V.int .i64 o.Prime,dv,m],⟨E1,c1⟩):=t1;have b1:∀k,K1 k→3≤k∧k < E1.length:=fun k q=>(t8 k).2 (.inl q);have b2:∀k,K2 k→3≤k∧k < E1.length:=fun k q=>(t8 k).2 (.inr q);have m1:E1[1]? =some (1,some [V.int .i64 0,V.nils,V.nils,V.nils]):=t4 1 (by decide);have m2:E1[2]? =some (2,some [V.int .i64 0,V.nils,V.nils,V.nils]):=t4 2 (by decide);obtain⟨lw,⟨E2,c2⟩,K3,u1,u2,u3,u4,u5⟩:=thawD (α:=List (List Int)) (by decide) lv ⟨E1.set 2 (2,some [V.int .i64 o.Prime,dv,m,V.nils]),c1⟩;obtain⟨v1,v2⟩:=rep_one u2;simp only[vA]at u3 u4 u5;have u1':thaw 16 [1,1] (V.isl (lv.map enc)) ⟨E1.set 2 (2,some [V.int .i64 o.Prime,dv,m,V.nils]),c1⟩=some (lw,⟨E2,c2⟩):=u1;have n2:∀z,(E1.set 2 z)[2]? =some z:=fun z=> qy (by omega);have n3:E2[2]? =some (2,some [V.int .i64 o.Prime,dv,m,V.nils]):=(u5 2 (by omega)).trans (n2 _);have n4:∀z,(E2.set 2 z)[2]? =some z:=fun z=> qy (by omega);have n5:E2[1]? =some (1,some [V.int .i64 0,V.nils,V.nils,V.nils]):=(u5 1 (by omega)).trans ((qI (by decide)).trans m1);have n6:∀z,(E2.set 2 z)[1]? =some (1,some [V.int .i64 0,V.nils,V.nils,V.nils]):=fun z=>(qI (by decide)).trans n5;simp only[simprocAttr,R0,b40,qL,t1',u1',v1,v2,m1,m2,n2,n3,n4,n5,n6, *];have f1:∀y z c,Deep.rep ⟨(E2.set 2 y).set 1 z,c⟩ dv o.Dims K1:=fun y z c=> Deep.frame t5 fun k q=> by
  have:=b1 k q;rw[qI (by omega),qI (by omega),u5 k (by omega),qI (by omega)]
 have f2:∀y z c,Deep.rep ⟨(E2.set 2 y).set 1 z,c⟩ m o.Maps K2:=fun y z c=> Deep.frame t6 fun k q=> by
  have:=b2 k q;rw[qI (by omega),qI (by omega),u5 k (by omega),qI (by omega)]
 have f3:∀y z c,Deep.rep ⟨(E2.set 2 y).set 1 z,c⟩ lw lv K3:=fun y z c=> Deep.frame u2 fun k q=> by
  have:=u3 k q;rw[qI (by omega),qI (by omega)]
 have hl2:∀y,1 < (E2.set 2 y).length:=fun y=> by rw[vA]; omega
 refine ai (fun _=> trivial) ⟨V.agg [V.int .i64 o.Prime,dv,m,lw],by simp only[simprocAttr,R0,qb,p40,Rs.ev,qy (hl2 _), *],_,_,rfl,rec4 (f1 _ _ _) (f2 _ _ _) (f3 _ _ _) t7 (fun k y z=> by have:=b1 k y; have:=u3 k z; omega) (fun k y z=> by have:=b2 k y; have:=u3 k z; omega)⟩
theorem s40(x:GFiltered){r:GFiltered}(hF:F40 x=some r):ans A 40 [(eF x)]=some (enc r):=ans_of_deep (α:=GFiltered) (by decide) (d40 x hF)
theorem x40(x:GFiltered){r:GFiltered}(hF:F40 x=some r):tans A 40 [1,1,1] [(eF x)]=some (enc r):=jC (α:=GFiltered) (by decide) (d40 x hF)
def F54(a0:Int)(a1:Int)(a2:Int):Option Bool:=
 if a1≤a0 then
  some (decide (a0≤a2))
 else
  some false
theorem s54(a0:Int)(a1:Int)(a2:Int){r:Bool}(hF:F54 a0 a1 a2=some r):ans A 54 [V.int .i64 a0,V.int .i64 a1,V.int .i64 a2]=some (enc r):=by
 refine qp (f:=p54) rfl rfl rfl fun e hl he=>?_;have h0_0:e.at 0=V.int .i64 a0:=he 0 _ rfl;have h1_0:e.at 1=V.int .i64 a1:=he 1 _ rfl;have h2_0:e.at 2=V.int .i64 a2:=he 2 _ rfl;have hl_0:e.length=15:=hl;clear he hl;have h_0:=ai hl_0 (ai h0_0 (ai h1_0 h2_0));show W A b54 e ⟨[],0⟩ _;unfold F54 at hF;by_cases c1:a1≤a0
 ·rw[if_pos c1]at hF
  cases hF;simp only[simprocAttr,R0,b54, *];exact qd (by simp only[simprocAttr,R0,qb,p54,Rs.ev,qa, *])
 ·rw[if_neg c1]at hF
  cases hF;simp only[simprocAttr,R0,b54, *];exact qd (by simp only[simprocAttr,R0,qb,p54,Rs.ev,qa, *])
def F78(a0:Int):Option Bool:=
 if a0=2 then
  some true
 else
  if a0=3 then
   some true
  else
   if a0=5 then
    some true
   else
    some (decide (a0=7))
theorem s78(a0:Int){r:Bool}(hF:F78 a0=some r):ans A 78 [V.int .i64 a0]=some (enc r):=by
 refine qp (f:=p78) rfl rfl rfl fun e hl he=>?_;have h0_0:e.at 0=V.int .i64 a0:=he 0 _ rfl;have hl_0:e.length=17:=hl;clear he hl;have h_0:=ai hl_0 h0_0;show W A b78 e ⟨[],0⟩ _;unfold F78 at hF;by_cases c1:a0=2
 ·rw[if_pos c1]at hF
  cases hF;simp only[simprocAttr,R0,b78, *];exact qd (by simp only[simprocAttr,R0,qb,p78,Rs.ev,qa, *])
 ·rw[if_neg c1]at hF
  by_cases c2:a0=3
  ·rw[if_pos c2]at hF
   cases hF;simp only[simprocAttr,R0,b78, *];exact qd (by simp only[simprocAttr,R0,qb,p78,Rs.ev,qa, *])
  ·rw[if_neg c2]at hF
   by_cases c3:a0=5
   ·rw[if_pos c3]at hF
    cases hF;simp only[simprocAttr,R0,b78, *];exact qd (by simp only[simprocAttr,R0,qb,p78,Rs.ev,qa, *])
   ·rw[if_neg c3]at hF
    cases hF;simp only[simprocAttr,R0,b78, *];exact qd (by simp only[simprocAttr,R0,qb,p78,Rs.ev,qa, *])
def F79_2_S(a0:Int)(a1:List (List Int))(a3:Int)(v9_1:Int)(v10_2:Int):Option ((Int)⊕((Unit)⊕Bool)):=
 (getI a1 v9_1).bind fun x11=>
if v10_2 < (x11.length:Int)then
 (getI x11 v10_2).bind fun x14=>
 (chk (a0 - 1)).bind fun x16=>
 (F54 x14 0 x16).bind fun x17=>
 if x17=true then
  (chk (v10_2+1)).bind fun x19=>
  some (.inl x19)
 else
  some (.inr (.inr false))
else
 some (.inr (.inl ()))
def F79_1_B(a0:Int)(a1:List (List Int))(a3:Int)(v9_1:Int)(s:Unit):Option ((Unit)⊕((Unit)⊕Bool)):=
 (getI a1 v9_1).bind fun x5=>
if(x5.length:Int)=a3 then
 (qB (F79_2_S a0 a1 a3 v9_1) 0).bind fun t20=> match t20 with
  | .inl _=>
   some (.inl ())
  | .inr r21=> some (.inr (.inr r21))
else
 some (.inr (.inr false))
def F79_1_D(a0:Int)(a1:List (List Int))(a3:Int)(v9_1:Int)(s:Unit):Option ((Unit)⊕Bool):=
 some (.inl ())
def F79(a0:Int)(a1:List (List Int))(a2:Int)(a3:Int):Option Bool:=
 if(a1.length:Int)=a2 then
  (forR 0 (a1.length:Int) (F79_1_B a0 a1 a3) (F79_1_D a0 a1 a3) ()).bind fun t22=> match t22 with
   | .inl _=>
    some true
   | .inr r23=> some r23
 else
  some false
def I79_2(a0:Int)(a1:List (List Int))(a3:Int)(v9_1:Int)(v10_2:Int)(e:Env)(h:Heap):Prop:=
 ∃k9:Nat,h=⟨[],k9⟩∧e.length=48∧e.at 0=V.int .i64 a0∧e.at 1=V.isl (a1.map enc)∧e.at 3=V.int .i64 a3∧e.at 9=V.int .i64 v9_1∧e.at 10=V.int .i64 v10_2
def P79_2(a0:Int)(a1:List (List Int))(a3:Int)(v9_1:Int)(t:(Unit)⊕Bool)(x:Ex)(e:Env)(h:Heap):Prop:=
 match t with
 | .inl _=> x= .normal∧∃k9:Nat,h=⟨[],k9⟩∧e.length=48∧e.at 0=V.int .i64 a0∧e.at 1=V.isl (a1.map enc)∧e.at 3=V.int .i64 a3∧e.at 9=V.int .i64 v9_1
 | .inr r=> x= .ret∧Fin p79 (enc r) .ret e h
theorem l79_2(a0:Int)(a1:List (List Int))(a3:Int)(v9_1:Int){s:Int}{t:(Unit)⊕Bool}(hF:qB (F79_2_S a0 a1 a3 v9_1) s=some t){e:Env}{h:Heap}(hI:I79_2 a0 a1 a3 v9_1 s e h):W A c79_2 e h (P79_2 a0 a1 a3 v9_1 t):=by
 show W A (.block 2 (.loop false b79_2)) e h _;rw[qh];refine zy hF 0 (by obtain⟨_,rfl,_⟩:=hI; rfl) (I79_2 a0 a1 a3 v9_1) hI ?_
 ·rintro v10_2 e h ⟨k9,rfl,h_8⟩ o ho
  unfold F79_2_S at ho;obtain⟨x11,gx11,ho⟩:=bS ho;obtain⟨w12a,w12b⟩:=qf gx11;by_cases c13:v10_2 < (x11.length:Int)
  ·rw[if_pos c13]at ho
   obtain⟨x14,gx14,ho⟩:=bS ho;obtain⟨w15a,w15b⟩:=qf gx14;obtain⟨x16,gx16,ho⟩:=bS ho;have wx16:=qm gx16;obtain⟨x17,gx17,ho⟩:=bS ho;have w18:=s54 x14 0 x16 gx17;cases x17 with
   |true=>
    rw[if_pos rfl]at ho;obtain⟨x19,gx19,ho⟩:=bS ho;have wx19:=qm gx19;cases ho;simp only[simprocAttr,R0,b79_2, *];refine ai rfl (ei _ (ai rfl ?_));simp only[simprocAttr,R0, *]
   |false=>
    rw[if_neg wE]at ho;cases ho;simp only[simprocAttr,R0,b79_2, *];intro ht;(first|subst ht|cases t);simp only[simprocAttr,RR,RB];exact ai rfl (qd (by simp only[simprocAttr,R0,qb,p79,Rs.ev,qa, *]))
  ·rw[if_neg c13]at ho
   cases ho;simp only[simprocAttr,R0,b79_2, *];intro ht;(first|subst ht|cases t);simp only[simprocAttr,RR,RB];refine ai rfl (ei _ (ai rfl ?_));simp only[simprocAttr,R0, *]
def I79_1(a0:Int)(a1:List (List Int))(a3:Int)(v9_1:Int)(s:Unit)(e:Env)(h:Heap):Prop:=
 ∃k3:Nat,h=⟨[],k3⟩∧e.length=48∧e.at 0=V.int .i64 a0∧e.at 1=V.isl (a1.map enc)∧e.at 3=V.int .i64 a3∧e.at 9=V.int .i64 v9_1
def P79_1(a0:Int)(a1:List (List Int))(a3:Int)(t:(Unit)⊕Bool)(x:Ex)(e:Env)(h:Heap):Prop:=
 match t with
 | .inl _=> x= .normal∧∃k3:Nat,h=⟨[],k3⟩∧e.length=48
 | .inr r=> x= .ret∧Fin p79 (enc r) .ret e h
theorem l79_1(a0:Int)(a1:List (List Int))(a3:Int){lo:Int}{s:Unit}{t:(Unit)⊕Bool}(hF:forR lo (a1.length:Int) (F79_1_B a0 a1 a3) (F79_1_D a0 a1 a3) s=some t){e:Env}{h:Heap}(hI:I79_1 a0 a1 a3 lo s e h):W A c79_1 e h (P79_1 a0 a1 a3 t):=by
 show W A (.block 0 (.loop false b79_1)) e h _;rw[qh];refine qv hF 0 (by obtain⟨_,rfl,_⟩:=hI; rfl) (I79_1 a0 a1 a3) hI ?_ ?_
 ·rintro v9_1 _ e h ⟨k3,rfl,h_2⟩ hlt hw o ho
  unfold F79_1_B at ho;obtain⟨x5,gx5,ho⟩:=bS ho;obtain⟨w6a,w6b⟩:=qf gx5;by_cases c7:(x5.length:Int)=a3
  ·rw[if_pos c7]at ho
   obtain⟨t20,gt20,ho⟩:=bS ho;rcases t20 with _|r21
   ·dsimp only at ho
    simp only[simprocAttr,R0,b79_1, *];refine W.mono (l79_2 a0 a1 a3 v9_1 gt20 (ei _ (ai rfl ?_))) ?_
    ·simp only[simprocAttr,R0, *]
    rintro _ e _ ⟨rfl,k9,rfl,h_10⟩;cases ho;simp only[simprocAttr,R0, *];refine ai rfl (ei _ (ai rfl ?_));simp only[simprocAttr,R0, *]
   ·dsimp only at ho
    cases ho;simp only[simprocAttr,R0,b79_1, *];refine W.mono (l79_2 a0 a1 a3 v9_1 gt20 (ei _ (ai rfl ?_))) ?_
    ·simp only[simprocAttr,R0, *]
    rintro _ e h ⟨rfl,hq⟩;simp only[simprocAttr,RR,RB];intro ht; subst ht;simp only[simprocAttr,RR,RB];exact ai rfl hq
  ·rw[if_neg c7]at ho
   cases ho;simp only[simprocAttr,R0,b79_1, *];intro ht;(first|subst ht|cases t);simp only[simprocAttr,RR,RB];exact ai rfl (qd (by simp only[simprocAttr,R0,qb,p79,Rs.ev,qa, *]))
 ·rintro v9_1 _ e h ⟨k3,rfl,h_2⟩ hge t1 ho
  unfold F79_1_D at ho;cases ho;simp only[simprocAttr,R0,b79_1, *];intro ht;(first|subst ht|cases t);refine ai rfl (ei _ (ai rfl ?_));simp only[simprocAttr,R0, *]
theorem s79(a0:Int)(a1:List (List Int))(a2:Int)(a3:Int){r:Bool}(hF:F79 a0 a1 a2 a3=some r):ans A 79 [V.int .i64 a0,V.isl (a1.map enc),V.int .i64 a2,V.int .i64 a3]=some (enc r):=by
 refine qp (f:=p79) rfl rfl rfl fun e hl he=>?_;have h0_0:e.at 0=V.int .i64 a0:=he 0 _ rfl;have h1_0:e.at 1=V.isl (a1.map enc):=he 1 _ rfl;have h2_0:e.at 2=V.int .i64 a2:=he 2 _ rfl;have h3_0:e.at 3=V.int .i64 a3:=he 3 _ rfl;have hl_0:e.length=48:=hl;clear he hl;have h_0:=ai hl_0 (ai h0_0 (ai h1_0 (ai h2_0 h3_0)));show W A b79 e ⟨[],0⟩ _;unfold F79 at hF;by_cases c1:(a1.length:Int)=a2
 ·rw[if_pos c1]at hF
  obtain⟨t22,gt22,hF⟩:=bS hF;rcases t22 with _|r23
  ·dsimp only at hF
   simp only[simprocAttr,R0,b79, *];refine W.mono (l79_1 a0 a1 a3 gt22 (ei _ (ai rfl ?_))) ?_
   ·simp only[simprocAttr,R0, *]
   rintro _ e _ ⟨rfl,k3,rfl,hl_4⟩;cases hF;simp only[simprocAttr,R0, *];exact qd (by simp only[simprocAttr,R0,qb,p79,Rs.ev,qa, *])
  ·dsimp only at hF
   cases hF;simp only[simprocAttr,R0,b79, *];refine W.mono (l79_1 a0 a1 a3 gt22 (ei _ (ai rfl ?_))) ?_
   ·simp only[simprocAttr,R0, *]
   rintro _ e h ⟨rfl,hq⟩;simp only[simprocAttr,RR,RB];exact hq
 ·rw[if_neg c1]at hF
  cases hF;simp only[simprocAttr,R0,b79, *];exact qd (by simp only[simprocAttr,R0,qb,p79,Rs.ev,qa, *])
def F80_2_S(a0:Int)(a1:List (List Int))(a2:List Int)(v10_1:Int)(s:(List Int)×Int):Option (((List Int)×Int)⊕((List Int))):=
 match s with
 |(o0_2,v11_2)=>
  if v11_2 < ((o0_2.length:Nat):Int)then
   (getI o0_2 v11_2).bind fun x12=>
   (getI a2 v10_1).bind fun x14=>
   (getI a1 v10_1).bind fun x16=>
   (getI x16 v11_2).bind fun x18=>
   (chk (x14*x18)).bind fun x20=>
   (chk (x12+x20)).bind fun x21=>
   (remI x21 a0).bind fun x22=>
   (setI o0_2 v11_2 x22).bind fun l24=>
   (chk (v11_2+1)).bind fun x26=>
   some (.inl (l24,x26))
  else
   some (.inr o0_2)
def F80_1_B(a0:Int)(a1:List (List Int))(a2:List Int)(v10_1:Int)(o0_1:(List Int)):Option (((List Int))⊕((List Int))):=
 (qB (F80_2_S a0 a1 a2 v10_1) (o0_1,0)).bind fun zo0_2=>
some (.inl zo0_2)
def F80_1_D(a0:Int)(a1:List (List Int))(a2:List Int)(v10_1:Int)(o0_1:(List Int)):Option ((List Int)):=
 some o0_1
def F80(a0:Int)(a1:List (List Int))(a2:List Int)(a3:Int):Option (List Int):=
 (mkL 8 a3 0).bind fun l1=>
 (forR 0 (a2.length:Int) (F80_1_B a0 a1 a2) (F80_1_D a0 a1 a2) l1).bind fun zo0_1=>
 some zo0_1
def I80_2(a0:Int)(a1:List (List Int))(a2:List Int)(v10_1:Int)(s:(List Int)×Int)(e:Env)(h:Heap):Prop:=
 match s with
 |(o0_2,v11_2)=>
  ∃u8 k9:Nat,h=⟨[(u8,some (o0_2.map enc))],k9⟩∧e.length=49∧e.at 0=V.int .i64 a0∧e.at 1=V.isl (a1.map enc)∧e.at 2=V.isl (a2.map enc)∧e.at 9=V.sl 0 u8 0 o0_2.length 1∧e.at 10=V.int .i64 v10_1∧e.at 11=V.int .i64 v11_2
def P80_2(a0:Int)(a1:List (List Int))(a2:List Int)(v10_1:Int)(zo0_2:(List Int))(x:Ex)(e:Env)(h:Heap):Prop:=
 x= .normal∧∃u8 k9:Nat,h=⟨[(u8,some (zo0_2.map enc))],k9⟩∧e.length=49∧e.at 0=V.int .i64 a0∧e.at 1=V.isl (a1.map enc)∧e.at 2=V.isl (a2.map enc)∧e.at 9=V.sl 0 u8 0 zo0_2.length 1∧e.at 10=V.int .i64 v10_1
theorem l80_2(a0:Int)(a1:List (List Int))(a2:List Int)(v10_1:Int){s:(List Int)×Int}{t:(List Int)}(hF:qB (F80_2_S a0 a1 a2 v10_1) s=some t){e:Env}{h:Heap}(hI:I80_2 a0 a1 a2 v10_1 s e h):W A c80_2 e h (P80_2 a0 a1 a2 v10_1 t):=by
 show W A (.block 2 (.loop false b80_2)) e h _;rw[qh];refine zy hF 1 (by rcases s with⟨_,_⟩; obtain⟨_,_,rfl,_⟩:=hI; rfl) (I80_2 a0 a1 a2 v10_1) hI ?_
 ·rintro⟨o0_2,v11_2⟩ e h ⟨u8,k9,rfl,h_7⟩ o ho
  unfold F80_2_S at ho;dsimp only at ho;by_cases c11:v11_2 < ((o0_2.length:Nat):Int)
  ·rw[if_pos c11]at ho
   obtain⟨x12,gx12,ho⟩:=bS ho;obtain⟨w13a,w13b⟩:=qf gx12;have w13c:=za gx12;have w13d:List.drop (Int.toNat v11_2) (o0_2.map enc)=(V.int .i64 x12)::List.drop ((Int.toNat v11_2)+1) (o0_2.map enc):=jG w13b;obtain⟨x14,gx14,ho⟩:=bS ho;obtain⟨w15a,w15b⟩:=qf gx14;obtain⟨x16,gx16,ho⟩:=bS ho;obtain⟨w17a,w17b⟩:=qf gx16;obtain⟨x18,gx18,ho⟩:=bS ho;obtain⟨w19a,w19b⟩:=qf gx18;obtain⟨x20,gx20,ho⟩:=bS ho;have wx20:=qm gx20;obtain⟨x21,gx21,ho⟩:=bS ho;have wx21:=qm gx21;obtain⟨x22,gx22,ho⟩:=bS ho;obtain⟨w23a,w23b⟩:=rem_w gx22;obtain⟨l24,gl24,ho⟩:=bS ho;obtain⟨w25a,w25b,w25c,w25d,w25e⟩:=setI_w gl24;replace w25e:List.take (Int.toNat v11_2) (o0_2.map enc)++[V.int .i64 x22]++List.drop (Int.toNat v11_2+1) (o0_2.map enc)=List.map enc l24:=w25e;obtain⟨x26,gx26,ho⟩:=bS ho;have wx26:=qm gx26;cases ho;simp only[simprocAttr,R0,b80_2, *];refine ai rfl (ei _ (ei _ (ai rfl ?_)));simp only[simprocAttr,R0, *]
  ·rw[if_neg c11]at ho
   cases ho;simp only[simprocAttr,R0,b80_2, *];intro ht;(first|subst ht|cases t);simp only[simprocAttr,RR,RB];refine ai rfl (ei _ (ei _ (ai rfl ?_)));simp only[simprocAttr,R0, *]
def I80_1(a0:Int)(a1:List (List Int))(a2:List Int)(v10_1:Int)(o0_1:(List Int))(e:Env)(h:Heap):Prop:=
 ∃u4 k5:Nat,h=⟨[(u4,some (o0_1.map enc))],k5⟩∧e.length=49∧e.at 0=V.int .i64 a0∧e.at 1=V.isl (a1.map enc)∧e.at 2=V.isl (a2.map enc)∧e.at 9=V.sl 0 u4 0 o0_1.length 1∧e.at 10=V.int .i64 v10_1
def P80_1(a0:Int)(a1:List (List Int))(a2:List Int)(zo0_1:(List Int))(x:Ex)(e:Env)(h:Heap):Prop:=
 x= .normal∧∃u4 k5:Nat,h=⟨[(u4,some (zo0_1.map enc))],k5⟩∧e.length=49∧e.at 9=V.sl 0 u4 0 zo0_1.length 1
theorem l80_1(a0:Int)(a1:List (List Int))(a2:List Int){lo:Int}{s:(List Int)}{t:(List Int)}(hF:forR lo (a2.length:Int) (F80_1_B a0 a1 a2) (F80_1_D a0 a1 a2) s=some t){e:Env}{h:Heap}(hI:I80_1 a0 a1 a2 lo s e h):W A c80_1 e h (P80_1 a0 a1 a2 t):=by
 show W A (.block 0 (.loop false b80_1)) e h _;rw[qh];refine qv hF 1 (by obtain⟨_,_,rfl,_⟩:=hI; rfl) (I80_1 a0 a1 a2) hI ?_ ?_
 ·rintro v10_1 o0_1 e h ⟨u4,k5,rfl,h_3⟩ hlt hw o ho
  unfold F80_1_B at ho;obtain⟨zo0_2,gt27,ho⟩:=bS ho;simp only[simprocAttr,R0,b80_1, *];refine W.mono (l80_2 a0 a1 a2 v10_1 gt27 (ei _ (ei _ (ai rfl ?_)))) ?_
  ·simp only[simprocAttr,R0, *]
  rintro _ e _ ⟨rfl,u8,k9,rfl,h_10⟩;cases ho;simp only[simprocAttr,R0, *];refine ai rfl (ei _ (ei _ (ai rfl ?_)));simp only[simprocAttr,R0, *]
 ·rintro v10_1 o0_1 e h ⟨u4,k5,rfl,h_3⟩ hge t1 ho
  unfold F80_1_D at ho;cases ho;simp only[simprocAttr,R0,b80_1, *];intro ht;(first|subst ht|cases t);refine ai rfl (ei _ (ei _ (ai rfl ?_)));simp only[simprocAttr,R0, *]
theorem s80(a0:Int)(a1:List (List Int))(a2:List Int)(a3:Int){r:List Int}(hF:F80 a0 a1 a2 a3=some r):ans A 80 [V.int .i64 a0,V.isl (a1.map enc),V.isl (a2.map enc),V.int .i64 a3]=some (enc r):=by
 refine qp (f:=p80) rfl rfl rfl fun e hl he=>?_;have h0_0:e.at 0=V.int .i64 a0:=he 0 _ rfl;have h1_0:e.at 1=V.isl (a1.map enc):=he 1 _ rfl;have h2_0:e.at 2=V.isl (a2.map enc):=he 2 _ rfl;have h3_0:e.at 3=V.int .i64 a3:=he 3 _ rfl;have hl_0:e.length=49:=hl;clear he hl;show W A b80 e ⟨[],0⟩ _;unfold F80 at hF;obtain⟨l1,gl1,hF⟩:=bS hF;obtain⟨w2a,w2b,w2c,w2d,w2e⟩:=mkL_w gl1;replace w2e:(List.replicate (Int.toNat a3) [V.int .i64 0]).flatten=List.map enc l1:=w2e;obtain⟨zo0_1,gt28,hF⟩:=bS hF;simp only[simprocAttr, -Int.reduceNatCast',R0,b80, *];refine W.mono (l80_1 a0 a1 a2 gt28 (ei _ (ei _ (ai rfl ?_)))) ?_
 ·simp only[simprocAttr, -Int.reduceNatCast',R0, *]
 rintro _ e _ ⟨rfl,u4,k5,rfl,hl_6,h9_6⟩;have hE:=wA hF; subst hE;simp only[simprocAttr, -Int.reduceNatCast',R0, *];exact qd (by simp only[simprocAttr, -Int.reduceNatCast',R0,qb,p80,Rs.ev,qa,frzs (α:=Int) zo0_1,zd (α:=Int) zo0_1, *])
def F81_1_B(a0:List Int)(v3_1:Int)(s:Unit):Option ((Unit)⊕((Unit)⊕Int)):=
 (getI a0 v3_1).bind fun x4=>
if x4=0 then
 some (.inl ())
else
 some (.inr (.inr v3_1))
def F81_1_D(a0:List Int)(v3_1:Int)(s:Unit):Option ((Unit)⊕Int):=
 some (.inl ())
def F81(a0:List Int):Option Int:=
 (forR 0 (a0.length:Int) (F81_1_B a0) (F81_1_D a0) ()).bind fun t7=> match t7 with
  | .inl _=>
   some (-1)
  | .inr r8=> some r8
def I81_1(a0:List Int)(v3_1:Int)(s:Unit)(e:Env)(h:Heap):Prop:=
 ∃k2:Nat,h=⟨[],k2⟩∧e.length=16∧e.at 0=V.isl (a0.map enc)∧e.at 3=V.int .i64 v3_1
def P81_1(a0:List Int)(t:(Unit)⊕Int)(x:Ex)(e:Env)(h:Heap):Prop:=
 match t with
 | .inl _=> x= .normal∧∃k2:Nat,h=⟨[],k2⟩∧e.length=16
 | .inr r=> x= .ret∧Fin p81 (enc r) .ret e h
theorem l81_1(a0:List Int){lo:Int}{s:Unit}{t:(Unit)⊕Int}(hF:forR lo (a0.length:Int) (F81_1_B a0) (F81_1_D a0) s=some t){e:Env}{h:Heap}(hI:I81_1 a0 lo s e h):W A c81_1 e h (P81_1 a0 t):=by
 show W A (.block 0 (.loop false b81_1)) e h _;rw[qh];refine qv hF 0 (by obtain⟨_,rfl,_⟩:=hI; rfl) (I81_1 a0) hI ?_ ?_
 ·rintro v3_1 _ e h ⟨k2,rfl,h_1⟩ hlt hw o ho
  unfold F81_1_B at ho;obtain⟨x4,gx4,ho⟩:=bS ho;obtain⟨w5a,w5b⟩:=qf gx4;by_cases c6:x4=0
  ·rw[if_pos c6]at ho
   cases ho;simp only[simprocAttr,R0,b81_1, *];refine ai rfl (ei _ (ai rfl ?_));simp only[simprocAttr,R0, *]
  ·rw[if_neg c6]at ho
   cases ho;simp only[simprocAttr,R0,b81_1, *];intro ht;(first|subst ht|cases t);simp only[simprocAttr,RR,RB];exact ai rfl (qd (by simp only[simprocAttr,R0,qb,p81,Rs.ev,qa, *]))
 ·rintro v3_1 _ e h ⟨k2,rfl,h_1⟩ hge t1 ho
  unfold F81_1_D at ho;cases ho;simp only[simprocAttr,R0,b81_1, *];intro ht;(first|subst ht|cases t);refine ai rfl (ei _ (ai rfl ?_));simp only[simprocAttr,R0, *]
theorem s81(a0:List Int){r:Int}(hF:F81 a0=some r):ans A 81 [V.isl (a0.map enc)]=some (enc r):=by
 refine qp (f:=p81) rfl rfl rfl fun e hl he=>?_;have h0_0:e.at 0=V.isl (a0.map enc):=he 0 _ rfl;have hl_0:e.length=16:=hl;clear he hl;have h_0:=ai hl_0 h0_0;show W A b81 e ⟨[],0⟩ _;unfold F81 at hF;obtain⟨t7,gt7,hF⟩:=bS hF;rcases t7 with _|r8
 ·dsimp only at hF
  simp only[simprocAttr,R0,b81, *];refine W.mono (l81_1 a0 gt7 (ei _ (ai rfl ?_))) ?_
  ·simp only[simprocAttr,R0, *]
  rintro _ e _ ⟨rfl,k2,rfl,hl_3⟩;cases hF;simp only[simprocAttr,R0, *];exact qd (by simp only[simprocAttr,R0,qb,p81,Rs.ev,qa, *])
 ·dsimp only at hF
  cases hF;simp only[simprocAttr,R0,b81, *];refine W.mono (l81_1 a0 gt7 (ei _ (ai rfl ?_))) ?_
  ·simp only[simprocAttr,R0, *]
  rintro _ e h ⟨rfl,hq⟩;simp only[simprocAttr,RR,RB];exact hq
def F39_1_B(a0:GComplex)(v3_1:Int)(s:Unit):Option ((Unit)⊕((Unit)⊕Bool)):=
 (getI a0.Dims v3_1).bind fun x10=>
(F54 x10 0 8).bind fun x12=>
if x12=true then
 some (.inl ())
else
 some (.inr (.inr false))
def F39_1_D(a0:GComplex)(v3_1:Int)(s:Unit):Option ((Unit)⊕Bool):=
 some (.inl ())
def F39_3_S(a0:GComplex)(v4_2:Int)(v5_3:Int):Option ((Int)⊕((Unit)⊕Bool)):=
 (getI a0.Maps v4_2).bind fun x29=>
if v5_3 < (x29.length:Int)then
 if 0 < v4_2 then
  (chk (v4_2 - 1)).bind fun x33=>
  (getI a0.Maps x33).bind fun x34=>
  (getI x29 v5_3).bind fun x36=>
  (getI a0.Dims x33).bind fun x38=>
  (F80 a0.Prime x34 x36 x38).bind fun x40=>
  (F81 x40).bind fun x42=>
  if 0≤x42 then
   some (.inr (.inr false))
  else
   (chk (v5_3+1)).bind fun x45=>
   some (.inl x45)
 else
  some (.inr (.inl ()))
else
 some (.inr (.inl ()))
def F39_2_B(a0:GComplex)(v4_2:Int)(s:Unit):Option ((Unit)⊕((Unit)⊕Bool)):=
 (getI a0.Maps v4_2).bind fun x18=>
(getI a0.Dims (v4_2+1)).bind fun x20=>
(getI a0.Dims v4_2).bind fun x22=>
(F79 a0.Prime x18 x20 x22).bind fun x24=>
if x24=true then
 (qB (F39_3_S a0 v4_2) 0).bind fun t46=> match t46 with
  | .inl _=>
   some (.inl ())
  | .inr r47=> some (.inr (.inr r47))
else
 some (.inr (.inr false))
def F39_2_D(a0:GComplex)(v4_2:Int)(s:Unit):Option ((Unit)⊕Bool):=
 some (.inl ())
def F39(a0:GComplex):Option Bool:=
 (F78 a0.Prime).bind fun x1=>
 if x1=true then
  if(a0.Dims.length:Int) < 1 then
   some false
  else
   if 6 < (a0.Dims.length:Int)then
    some false
   else
    (chk ((a0.Dims.length:Int) - 1)).bind fun x5=>
    if(a0.Maps.length:Int)=x5 then
     (forR 0 (a0.Dims.length:Int) (F39_1_B a0) (F39_1_D a0) ()).bind fun t14=> match t14 with
      | .inl _=>
       (forR 0 (a0.Maps.length:Int) (F39_2_B a0) (F39_2_D a0) ()).bind fun t48=> match t48 with
        | .inl _=>
         some true
        | .inr r49=> some r49
      | .inr r50=> some r50
    else
     some false
 else
  some false
def I39_1(a0:GComplex)(v3_1:Int)(s:Unit)(e:Env)(h:Heap):Prop:=
 ∃k8:Nat,h=⟨[(0,none)],k8⟩∧e.length=112∧e.at 1=V.iptr [V.int .i64 a0.Prime,V.isl (a0.Dims.map enc),V.isl (a0.Maps.map enc)]∧e.at 3=V.int .i64 v3_1
def P39_1(a0:GComplex)(t:(Unit)⊕Bool)(x:Ex)(e:Env)(h:Heap):Prop:=
 match t with
 | .inl _=> x= .normal∧∃k8:Nat,h=⟨[(0,none)],k8⟩∧e.length=112∧e.at 1=V.iptr [V.int .i64 a0.Prime,V.isl (a0.Dims.map enc),V.isl (a0.Maps.map enc)]
 | .inr r=> x= .ret∧Fin p39 (enc r) .ret e h
theorem l39_1(a0:GComplex){lo:Int}{s:Unit}{t:(Unit)⊕Bool}(hF:forR lo (a0.Dims.length:Int) (F39_1_B a0) (F39_1_D a0) s=some t){e:Env}{h:Heap}(hI:I39_1 a0 lo s e h):W A c39_1 e h (P39_1 a0 t):=by
 show W A (.block 0 (.loop false b39_1)) e h _;rw[qh];refine qv hF 1 (by obtain⟨_,rfl,_⟩:=hI; rfl) (I39_1 a0) hI ?_ ?_
 ·rintro v3_1 _ e h ⟨k8,rfl,h_7⟩ hlt hw o ho
  unfold F39_1_B at ho;obtain⟨x10,gx10,ho⟩:=bS ho;obtain⟨w11a,w11b⟩:=qf gx10;obtain⟨x12,gx12,ho⟩:=bS ho;have w13:=s54 x10 0 8 gx12;cases x12 with
  |true=>
   rw[if_pos rfl]at ho;cases ho;simp only[simprocAttr,R0,b39_1, *];refine ai rfl (ei _ (ai rfl ?_));simp only[simprocAttr,R0, *]
  |false=>
   rw[if_neg wE]at ho;cases ho;simp only[simprocAttr,R0,b39_1, *];intro ht;(first|subst ht|cases t);simp only[simprocAttr,RR,RB];exact ai rfl (qd (by simp only[simprocAttr,R0,qb,p39,Rs.ev,qa, *]))
 ·rintro v3_1 _ e h ⟨k8,rfl,h_7⟩ hge t1 ho
  unfold F39_1_D at ho;cases ho;simp only[simprocAttr,R0,b39_1, *];intro ht;(first|subst ht|cases t);refine ai rfl (ei _ (ai rfl ?_));simp only[simprocAttr,R0, *]
def I39_3(a0:GComplex)(v4_2:Int)(v5_3:Int)(e:Env)(h:Heap):Prop:=
 ∃k27:Nat,h=⟨[(0,none)],k27⟩∧e.length=112∧e.at 1=V.iptr [V.int .i64 a0.Prime,V.isl (a0.Dims.map enc),V.isl (a0.Maps.map enc)]∧e.at 4=V.int .i64 v4_2∧e.at 5=V.int .i64 v5_3
def P39_3(a0:GComplex)(v4_2:Int)(t:(Unit)⊕Bool)(x:Ex)(e:Env)(h:Heap):Prop:=
 match t with
 | .inl _=> x= .normal∧∃k27:Nat,h=⟨[(0,none)],k27⟩∧e.length=112∧e.at 1=V.iptr [V.int .i64 a0.Prime,V.isl (a0.Dims.map enc),V.isl (a0.Maps.map enc)]∧e.at 4=V.int .i64 v4_2
 | .inr r=> x= .ret∧Fin p39 (enc r) .ret e h
theorem l39_3(a0:GComplex)(v4_2:Int){s:Int}{t:(Unit)⊕Bool}(hF:qB (F39_3_S a0 v4_2) s=some t){e:Env}{h:Heap}(hI:I39_3 a0 v4_2 s e h):W A c39_3 e h (P39_3 a0 v4_2 t):=by
 show W A (.block 4 (.loop false b39_3)) e h _;rw[qh];refine zy hF 1 (by obtain⟨_,rfl,_⟩:=hI; rfl) (I39_3 a0 v4_2) hI ?_
 ·rintro v5_3 e h ⟨k27,rfl,h_26⟩ o ho
  unfold F39_3_S at ho;obtain⟨x29,gx29,ho⟩:=bS ho;obtain⟨w30a,w30b⟩:=qf gx29;by_cases c31:v5_3 < (x29.length:Int)
  ·rw[if_pos c31]at ho
   by_cases c32:0 < v4_2
   ·rw[if_pos c32]at ho
    obtain⟨x33,gx33,ho⟩:=bS ho;have wx33:=qm gx33;obtain⟨x34,gx34,ho⟩:=bS ho;obtain⟨w35a,w35b⟩:=qf gx34;obtain⟨x36,gx36,ho⟩:=bS ho;obtain⟨w37a,w37b⟩:=qf gx36;obtain⟨x38,gx38,ho⟩:=bS ho;obtain⟨w39a,w39b⟩:=qf gx38;obtain⟨x40,gx40,ho⟩:=bS ho;have w41:=s80 a0.Prime x34 x36 x38 gx40;obtain⟨x42,gx42,ho⟩:=bS ho;have w43:=s81 x40 gx42;by_cases c44:0≤x42
    ·rw[if_pos c44]at ho
     cases ho;simp only[simprocAttr,R0,b39_3, *];intro ht;(first|subst ht|cases t);simp only[simprocAttr,RR,RB];exact ai rfl (qd (by simp only[simprocAttr,R0,qb,p39,Rs.ev,qa, *]))
    ·rw[if_neg c44]at ho
     obtain⟨x45,gx45,ho⟩:=bS ho;have wx45:=qm gx45;cases ho;simp only[simprocAttr,R0,b39_3, *];refine ai rfl (ei _ (ai rfl ?_));simp only[simprocAttr,R0, *]
   ·rw[if_neg c32]at ho
    cases ho;simp only[simprocAttr,R0,b39_3, *];intro ht;(first|subst ht|cases t);simp only[simprocAttr,RR,RB];refine ai rfl (ei _ (ai rfl ?_));simp only[simprocAttr,R0, *]
  ·rw[if_neg c31]at ho
   cases ho;simp only[simprocAttr,R0,b39_3, *];intro ht;(first|subst ht|cases t);simp only[simprocAttr,RR,RB];refine ai rfl (ei _ (ai rfl ?_));simp only[simprocAttr,R0, *]
def I39_2(a0:GComplex)(v4_2:Int)(s:Unit)(e:Env)(h:Heap):Prop:=
 ∃k16:Nat,h=⟨[(0,none)],k16⟩∧e.length=112∧e.at 1=V.iptr [V.int .i64 a0.Prime,V.isl (a0.Dims.map enc),V.isl (a0.Maps.map enc)]∧e.at 4=V.int .i64 v4_2
def P39_2(a0:GComplex)(t:(Unit)⊕Bool)(x:Ex)(e:Env)(h:Heap):Prop:=
 match t with
 | .inl _=> x= .normal∧∃k16:Nat,h=⟨[(0,none)],k16⟩∧e.length=112
 | .inr r=> x= .ret∧Fin p39 (enc r) .ret e h
theorem l39_2(a0:GComplex){lo:Int}{s:Unit}{t:(Unit)⊕Bool}(hF:forR lo (a0.Maps.length:Int) (F39_2_B a0) (F39_2_D a0) s=some t){e:Env}{h:Heap}(hI:I39_2 a0 lo s e h):W A c39_2 e h (P39_2 a0 t):=by
 show W A (.block 2 (.loop false b39_2)) e h _;rw[qh];refine qv hF 1 (by obtain⟨_,rfl,_⟩:=hI; rfl) (I39_2 a0) hI ?_ ?_
 ·rintro v4_2 _ e h ⟨k16,rfl,h_15⟩ hlt hw o ho
  unfold F39_2_B at ho;obtain⟨x18,gx18,ho⟩:=bS ho;obtain⟨w19a,w19b⟩:=qf gx18;obtain⟨x20,gx20,ho⟩:=bS ho;obtain⟨w21a,w21b⟩:=qf gx20;obtain⟨x22,gx22,ho⟩:=bS ho;obtain⟨w23a,w23b⟩:=qf gx22;obtain⟨x24,gx24,ho⟩:=bS ho;have w25:=s79 a0.Prime x18 x20 x22 gx24;cases x24 with
  |true=>
   rw[if_pos rfl]at ho;obtain⟨t46,gt46,ho⟩:=bS ho;rcases t46 with _|r47
   ·dsimp only at ho
    simp only[simprocAttr,R0,b39_2, *];refine W.mono (l39_3 a0 v4_2 gt46 (ei _ (ai rfl ?_))) ?_
    ·simp only[simprocAttr,R0, *]
    rintro _ e _ ⟨rfl,k27,rfl,h_28⟩;cases ho;simp only[simprocAttr,R0, *];refine ai rfl (ei _ (ai rfl ?_));simp only[simprocAttr,R0, *]
   ·dsimp only at ho
    cases ho;simp only[simprocAttr,R0,b39_2, *];refine W.mono (l39_3 a0 v4_2 gt46 (ei _ (ai rfl ?_))) ?_
    ·simp only[simprocAttr,R0, *]
    rintro _ e h ⟨rfl,hq⟩;simp only[simprocAttr,RR,RB];intro ht; subst ht;simp only[simprocAttr,RR,RB];exact ai rfl hq
  |false=>
   rw[if_neg wE]at ho;cases ho;simp only[simprocAttr,R0,b39_2, *];intro ht;(first|subst ht|cases t);simp only[simprocAttr,RR,RB];exact ai rfl (qd (by simp only[simprocAttr,R0,qb,p39,Rs.ev,qa, *]))
 ·rintro v4_2 _ e h ⟨k16,rfl,h_15⟩ hge t1 ho
  unfold F39_2_D at ho;cases ho;simp only[simprocAttr,R0,b39_2, *];intro ht;(first|subst ht|cases t);refine ai rfl (ei _ (ai rfl ?_));simp only[simprocAttr,R0, *]
theorem s39(a0:GComplex){r:Bool}(hF:F39 a0=some r):ans A 39 [(eC a0)]=some (enc r):=by
 refine qp (f:=p39) rfl rfl rfl fun e hl he=>?_;have h0_0:e.at 0=(eC a0):=he 0 _ rfl;have hl_0:e.length=112:=hl;clear he hl;have h_0:=ai hl_0 h0_0;show W A b39 e ⟨[],0⟩ _;unfold F39 at hF;obtain⟨x1,gx1,hF⟩:=bS hF;have w2:=s78 a0.Prime gx1;cases x1 with
 |true=>
  rw[if_pos rfl]at hF;by_cases c3:(a0.Dims.length:Int) < 1
  ·rw[if_pos c3]at hF
   cases hF;simp only[simprocAttr,R0,b39, *];exact qd (by simp only[simprocAttr,R0,qb,p39,Rs.ev,qa, *])
  ·rw[if_neg c3]at hF
   by_cases c4:6 < (a0.Dims.length:Int)
   ·rw[if_pos c4]at hF
    cases hF;simp only[simprocAttr,R0,b39, *];exact qd (by simp only[simprocAttr,R0,qb,p39,Rs.ev,qa, *])
   ·rw[if_neg c4]at hF
    obtain⟨x5,gx5,hF⟩:=bS hF;have wx5:=qm gx5;by_cases c6:(a0.Maps.length:Int)=x5
    ·rw[if_pos c6]at hF
     obtain⟨t14,gt14,hF⟩:=bS hF;rcases t14 with _|r50
     ·dsimp only at hF
      simp only[simprocAttr,R0,b39, *];refine W.mono (l39_1 a0 gt14 (ei _ (ai rfl ?_))) ?_
      ·simp only[simprocAttr,R0, *]
      rintro _ e _ ⟨rfl,k8,rfl,h_9⟩;obtain⟨t48,gt48,hF⟩:=bS hF;rcases t48 with _|r49
      ·dsimp only at hF
       simp only[simprocAttr,R0, *];refine W.mono (l39_2 a0 gt48 (ei _ (ai rfl ?_))) ?_
       ·simp only[simprocAttr,R0, *]
       rintro _ e _ ⟨rfl,k16,rfl,hl_17⟩;cases hF;simp only[simprocAttr,R0, *];exact qd (by simp only[simprocAttr,R0,qb,p39,Rs.ev,qa, *])
      ·dsimp only at hF
       cases hF;simp only[simprocAttr,R0, *];refine W.mono (l39_2 a0 gt48 (ei _ (ai rfl ?_))) ?_
       ·simp only[simprocAttr,R0, *]
       rintro _ e h ⟨rfl,hq⟩;simp only[simprocAttr,RR,RB];exact hq
     ·dsimp only at hF
      cases hF;simp only[simprocAttr,R0,b39, *];refine W.mono (l39_1 a0 gt14 (ei _ (ai rfl ?_))) ?_
      ·simp only[simprocAttr,R0, *]
      rintro _ e h ⟨rfl,hq⟩;simp only[simprocAttr,RR,RB];exact hq
    ·rw[if_neg c6]at hF
     cases hF;simp only[simprocAttr,R0,b39, *];exact qd (by simp only[simprocAttr,R0,qb,p39,Rs.ev,qa, *])
 |false=>
  rw[if_neg wE]at hF;cases hF;simp only[simprocAttr,R0,b39, *];exact qd (by simp only[simprocAttr,R0,qb,p39,Rs.ev,qa, *])
def F99(a0:GComplex)(a1:Int):Option Int:=
 (chk ((a0.Dims.length:Int) - 1)).bind fun x1=>
 (F54 a1 0 x1).bind fun x2=>
 if x2=true then
  (getI a0.Dims a1).bind fun x4=>
  some x4
 else
  some 0
theorem s99(a0:GComplex)(a1:Int){r:Int}(hF:F99 a0 a1=some r):ans A 99 [(eC a0),V.int .i64 a1]=some (enc r):=by
 refine qp (f:=p99) rfl rfl rfl fun e hl he=>?_;have h0_0:e.at 0=(eC a0):=he 0 _ rfl;have h1_0:e.at 1=V.int .i64 a1:=he 1 _ rfl;have hl_0:e.length=17:=hl;clear he hl;have h_0:=ai hl_0 (ai h0_0 h1_0);show W A b99 e ⟨[],0⟩ _;unfold F99 at hF;obtain⟨x1,gx1,hF⟩:=bS hF;have wx1:=qm gx1;obtain⟨x2,gx2,hF⟩:=bS hF;have w3:=s54 a1 0 x1 gx2;cases x2 with
 |true=>
  rw[if_pos rfl]at hF;obtain⟨x4,gx4,hF⟩:=bS hF;obtain⟨w5a,w5b⟩:=qf gx4;cases hF;simp only[simprocAttr,R0,b99, *];exact qd (by simp only[simprocAttr,R0,qb,p99,Rs.ev,qa, *])
 |false=>
  rw[if_neg wE]at hF;cases hF;simp only[simprocAttr,R0,b99, *];exact qd (by simp only[simprocAttr,R0,qb,p99,Rs.ev,qa, *])
def F76_1_S(a0:GComplex)(a1:Int)(s:(List (List Int))×Int):Option (((List (List Int))×Int)⊕((List (List Int)))):=
 match s with
 |(o1_1,v6_1)=>
  (F99 a0 a1).bind fun x11=>
  if v6_1 < x11 then
   (app 24 o1_1 ([([]:List Int)])).bind fun l15=>
   (chk (v6_1+1)).bind fun x16=>
   some (.inl (l15,x16))
  else
   some (.inr o1_1)
def F76(a0:GComplex)(a1:Int):Option (List (List Int)):=
 (chk ((a0.Dims.length:Int) - 1)).bind fun x1=>
 (F54 a1 1 x1).bind fun x2=>
 if x2=true then
  (chk (a1 - 1)).bind fun x4=>
  (getI a0.Maps x4).bind fun x5=>
  some x5
 else
  (qB (F76_1_S a0 a1) ([],0)).bind fun zo1_1=>
  some zo1_1
def I76_1(a0:GComplex)(a1:Int)(s:(List (List Int))×Int)(e:Env)(h:Heap):Prop:=
 match s with
 |(o1_1,v6_1)=>
  ∃u8 k9:Nat,h=⟨[(0,none),(u8,some (o1_1.map enc))],k9⟩∧e.length=32∧e.at 1=V.int .i64 a1∧e.at 2=V.iptr [V.int .i64 a0.Prime,V.isl (a0.Dims.map enc),V.isl (a0.Maps.map enc)]∧e.at 5=V.sl 1 u8 0 o1_1.length 1∧e.at 6=V.int .i64 v6_1
def P76_1(a0:GComplex)(a1:Int)(zo1_1:(List (List Int)))(x:Ex)(e:Env)(h:Heap):Prop:=
 x= .normal∧∃u8 k9:Nat,h=⟨[(0,none),(u8,some (zo1_1.map enc))],k9⟩∧e.length=32∧e.at 5=V.sl 1 u8 0 zo1_1.length 1
theorem l76_1(a0:GComplex)(a1:Int){s:(List (List Int))×Int}{t:(List (List Int))}(hF:qB (F76_1_S a0 a1) s=some t){e:Env}{h:Heap}(hI:I76_1 a0 a1 s e h):W A c76_1 e h (P76_1 a0 a1 t):=by
 show W A (.block 0 (.loop false b76_1)) e h _;rw[qh];refine zy hF 2 (by rcases s with⟨_,_⟩; obtain⟨_,_,rfl,_⟩:=hI; rfl) (I76_1 a0 a1) hI ?_
 ·rintro⟨o1_1,v6_1⟩ e h ⟨u8,k9,rfl,h_7⟩ o ho
  unfold F76_1_S at ho;dsimp only at ho;obtain⟨x11,gx11,ho⟩:=bS ho;have w12:=s99 a0 a1 gx11;by_cases c13:v6_1 < x11
  ·rw[if_pos c13]at ho
   obtain⟨l15,gl15,ho⟩:=bS ho;have w14:=fun a b c d e=> qD (α:=List Int) (n:=o1_1.length) (m:=1) (ds:=[V.isl []]) gl15 (by first|rfl|simp) (by first|rfl|simp) rfl a b c d e;have w14l:=qZ gl15;obtain⟨x16,gx16,ho⟩:=bS ho;have wx16:=qm gx16;cases ho;simp only[simprocAttr,R0,b76_1, *];refine ai rfl (ei _ (ei _ (ai rfl ?_)));simp only[simprocAttr,R0, *]
  ·rw[if_neg c13]at ho
   cases ho;simp only[simprocAttr,R0,b76_1, *];intro ht;(first|subst ht|cases t);simp only[simprocAttr,RR,RB];refine ai rfl (ei _ (ei _ (ai rfl ?_)));simp only[simprocAttr,R0, *]
theorem s76(a0:GComplex)(a1:Int){r:List (List Int)}(hF:F76 a0 a1=some r):ans A 76 [(eC a0),V.int .i64 a1]=some (enc r):=by
 refine qp (f:=p76) rfl rfl rfl fun e hl he=>?_;have h0_0:e.at 0=(eC a0):=he 0 _ rfl;have h1_0:e.at 1=V.int .i64 a1:=he 1 _ rfl;have hl_0:e.length=32:=hl;clear he hl;show W A b76 e ⟨[],0⟩ _;unfold F76 at hF;obtain⟨x1,gx1,hF⟩:=bS hF;have wx1:=qm gx1;obtain⟨x2,gx2,hF⟩:=bS hF;have w3:=s54 a1 1 x1 gx2;cases x2 with
 |true=>
  rw[if_pos rfl]at hF;obtain⟨x4,gx4,hF⟩:=bS hF;have wx4:=qm gx4;obtain⟨x5,gx5,hF⟩:=bS hF;obtain⟨w6a,w6b⟩:=qf gx5;have hE:=wA hF; subst hE;simp only[simprocAttr, -Int.reduceNatCast',R0,b76, *];exact qd (by simp only[simprocAttr, -Int.reduceNatCast',R0,qb,p76,Rs.ev,qa, *])
 |false=>
  rw[if_neg wE]at hF;obtain⟨zo1_1,gt17,hF⟩:=bS hF;simp only[simprocAttr, -Int.reduceNatCast',R0,b76, *];refine W.mono (l76_1 a0 a1 gt17 (ei _ (ei _ (ai rfl ?_)))) ?_
  ·simp only[simprocAttr, -Int.reduceNatCast',R0, *]
  rintro _ e _ ⟨rfl,u8,k9,rfl,hl_10,h5_10⟩;have hE:=wA hF; subst hE;simp only[simprocAttr, -Int.reduceNatCast',R0, *];exact qd (by simp only[simprocAttr, -Int.reduceNatCast',R0,qb,p76,Rs.ev,qa,frzs (α:=List Int) zo1_1,zd (α:=List Int) zo1_1, *])
def F77(a0:GFiltered)(a1:Int)(a2:Int):Option Int:=
 (getI a0.Levels a1).bind fun x1=>
 (getI x1 a2).bind fun x3=>
 some x3
theorem s77(a0:GFiltered)(a1:Int)(a2:Int){r:Int}(hF:F77 a0 a1 a2=some r):ans A 77 [(eF a0),V.int .i64 a1,V.int .i64 a2]=some (enc r):=by
 refine qp (f:=p77) rfl rfl rfl fun e hl he=>?_;have h0_0:e.at 0=(eF a0):=he 0 _ rfl;have h1_0:e.at 1=V.int .i64 a1:=he 1 _ rfl;have h2_0:e.at 2=V.int .i64 a2:=he 2 _ rfl;have hl_0:e.length=15:=hl;clear he hl;show W A b77 e ⟨[],0⟩ _;unfold F77 at hF;obtain⟨x1,gx1,hF⟩:=bS hF;obtain⟨w2a,w2b⟩:=qf gx1;obtain⟨x3,gx3,hF⟩:=bS hF;obtain⟨w4a,w4b⟩:=qf gx3;cases hF;simp only[simprocAttr,R0,b77, *];exact qd (by simp only[simprocAttr,R0,qb,p77,Rs.ev,qa, *])
def F38_2_S(a0:GFiltered)(v3_1:Int)(v4_2:Int):Option ((Int)⊕((Unit)⊕Bool)):=
 (getI a0.Levels v3_1).bind fun x15=>
if v4_2 < (x15.length:Int)then
 (getI x15 v4_2).bind fun x18=>
 (F54 x18 0 5).bind fun x20=>
 if x20=true then
  (chk (v4_2+1)).bind fun x22=>
  some (.inl x22)
 else
  some (.inr (.inr false))
else
 some (.inr (.inl ()))
def F38_1_B(a0:GFiltered)(v3_1:Int)(s:Unit):Option ((Unit)⊕((Unit)⊕Bool)):=
 (getI a0.Levels v3_1).bind fun x7=>
(getI a0.Complex.Dims v3_1).bind fun x9=>
if(x7.length:Int)=x9 then
 (qB (F38_2_S a0 v3_1) 0).bind fun t23=> match t23 with
  | .inl _=>
   some (.inl ())
  | .inr r24=> some (.inr (.inr r24))
else
 some (.inr (.inr false))
def F38_1_D(a0:GFiltered)(v3_1:Int)(s:Unit):Option ((Unit)⊕Bool):=
 some (.inl ())
def F38_5_S(a0:GFiltered)(v5_3:Int)(x29:List (List Int))(v7_4:Int)(v8_5:Int):Option ((Int)⊕((Unit)⊕Bool)):=
 (getI x29 v7_4).bind fun x37=>
if v8_5 < (x37.length:Int)then
 (getI x37 v8_5).bind fun x40=>
 if x40=0 then
  (chk (v8_5+1)).bind fun x43=>
  some (.inl x43)
 else
  (chk (v5_3 - 1)).bind fun x44=>
  (F77 a0 x44 v8_5).bind fun x45=>
  (F77 a0 v5_3 v7_4).bind fun x47=>
  if x47 < x45 then
   some (.inr (.inr false))
  else
   (chk (v8_5+1)).bind fun x50=>
   some (.inl x50)
else
 some (.inr (.inl ()))
def F38_4_B(a0:GFiltered)(v5_3:Int)(x29:List (List Int))(v7_4:Int)(s:Unit):Option ((Unit)⊕((Unit)⊕Bool)):=
 (qB (F38_5_S a0 v5_3 x29 v7_4) 0).bind fun t51=> match t51 with
 | .inl _=>
  some (.inl ())
 | .inr r52=> some (.inr (.inr r52))
def F38_4_D(a0:GFiltered)(v5_3:Int)(x29:List (List Int))(v7_4:Int)(s:Unit):Option ((Unit)⊕Bool):=
 some (.inl ())
def F38_3_B(a0:GFiltered)(v5_3:Int)(s:Unit):Option ((Unit)⊕((Unit)⊕Bool)):=
 (F76 a0.Complex v5_3).bind fun x29=>
(forR 0 (x29.length:Int) (F38_4_B a0 v5_3 x29) (F38_4_D a0 v5_3 x29) ()).bind fun t53=> match t53 with
 | .inl _=>
  some (.inl ())
 | .inr r54=> some (.inr (.inr r54))
def F38_3_D(a0:GFiltered)(v5_3:Int)(s:Unit):Option ((Unit)⊕Bool):=
 some (.inl ())
def F38(a0:GFiltered):Option Bool:=
 (F39 a0.Complex).bind fun x1=>
 if x1=true then
  if(a0.Levels.length:Int)=(a0.Complex.Dims.length:Int)then
   (forR 0 (a0.Levels.length:Int) (F38_1_B a0) (F38_1_D a0) ()).bind fun t25=> match t25 with
    | .inl _=>
     (forR 1 (a0.Levels.length:Int) (F38_3_B a0) (F38_3_D a0) ()).bind fun t55=> match t55 with
      | .inl _=>
       some true
      | .inr r56=> some r56
    | .inr r57=> some r57
  else
   some false
 else
  some false
def I38_2(a0:GFiltered)(v3_1:Int)(v4_2:Int)(e:Env)(h:Heap):Prop:=
 ∃k13:Nat,h=⟨[(0,none)],k13⟩∧e.length=109∧e.at 1=V.iptr [V.int .i64 a0.Complex.Prime,V.isl (a0.Complex.Dims.map enc),V.isl (a0.Complex.Maps.map enc),V.isl (a0.Levels.map enc)]∧e.at 3=V.int .i64 v3_1∧e.at 4=V.int .i64 v4_2
def P38_2(a0:GFiltered)(v3_1:Int)(t:(Unit)⊕Bool)(x:Ex)(e:Env)(h:Heap):Prop:=
 match t with
 | .inl _=> x= .normal∧∃k13:Nat,h=⟨[(0,none)],k13⟩∧e.length=109∧e.at 1=V.iptr [V.int .i64 a0.Complex.Prime,V.isl (a0.Complex.Dims.map enc),V.isl (a0.Complex.Maps.map enc),V.isl (a0.Levels.map enc)]∧e.at 3=V.int .i64 v3_1
 | .inr r=> x= .ret∧Fin p38 (enc r) .ret e h
theorem l38_2(a0:GFiltered)(v3_1:Int){s:Int}{t:(Unit)⊕Bool}(hF:qB (F38_2_S a0 v3_1) s=some t){e:Env}{h:Heap}(hI:I38_2 a0 v3_1 s e h):W A c38_2 e h (P38_2 a0 v3_1 t):=by
 show W A (.block 2 (.loop false b38_2)) e h _;rw[qh];refine zy hF 1 (by obtain⟨_,rfl,_⟩:=hI; rfl) (I38_2 a0 v3_1) hI ?_
 ·rintro v4_2 e h ⟨k13,rfl,h_12⟩ o ho
  unfold F38_2_S at ho;obtain⟨x15,gx15,ho⟩:=bS ho;obtain⟨w16a,w16b⟩:=qf gx15;by_cases c17:v4_2 < (x15.length:Int)
  ·rw[if_pos c17]at ho
   obtain⟨x18,gx18,ho⟩:=bS ho;obtain⟨w19a,w19b⟩:=qf gx18;obtain⟨x20,gx20,ho⟩:=bS ho;have w21:=s54 x18 0 5 gx20;cases x20 with
   |true=>
    rw[if_pos rfl]at ho;obtain⟨x22,gx22,ho⟩:=bS ho;have wx22:=qm gx22;cases ho;simp only[simprocAttr,R0,b38_2, *];refine ai rfl (ei _ (ai rfl ?_));simp only[simprocAttr,R0, *]
   |false=>
    rw[if_neg wE]at ho;cases ho;simp only[simprocAttr,R0,b38_2, *];intro ht;(first|subst ht|cases t);simp only[simprocAttr,RR,RB];exact ai rfl (qd (by simp only[simprocAttr,R0,qb,p38,Rs.ev,qa, *]))
  ·rw[if_neg c17]at ho
   cases ho;simp only[simprocAttr,R0,b38_2, *];intro ht;(first|subst ht|cases t);simp only[simprocAttr,RR,RB];refine ai rfl (ei _ (ai rfl ?_));simp only[simprocAttr,R0, *]
def I38_1(a0:GFiltered)(v3_1:Int)(s:Unit)(e:Env)(h:Heap):Prop:=
 ∃k5:Nat,h=⟨[(0,none)],k5⟩∧e.length=109∧e.at 1=V.iptr [V.int .i64 a0.Complex.Prime,V.isl (a0.Complex.Dims.map enc),V.isl (a0.Complex.Maps.map enc),V.isl (a0.Levels.map enc)]∧e.at 3=V.int .i64 v3_1
def P38_1(a0:GFiltered)(t:(Unit)⊕Bool)(x:Ex)(e:Env)(h:Heap):Prop:=
 match t with
 | .inl _=> x= .normal∧∃k5:Nat,h=⟨[(0,none)],k5⟩∧e.length=109∧e.at 1=V.iptr [V.int .i64 a0.Complex.Prime,V.isl (a0.Complex.Dims.map enc),V.isl (a0.Complex.Maps.map enc),V.isl (a0.Levels.map enc)]
 | .inr r=> x= .ret∧Fin p38 (enc r) .ret e h
theorem l38_1(a0:GFiltered){lo:Int}{s:Unit}{t:(Unit)⊕Bool}(hF:forR lo (a0.Levels.length:Int) (F38_1_B a0) (F38_1_D a0) s=some t){e:Env}{h:Heap}(hI:I38_1 a0 lo s e h):W A c38_1 e h (P38_1 a0 t):=by
 show W A (.block 0 (.loop false b38_1)) e h _;rw[qh];refine qv hF 1 (by obtain⟨_,rfl,_⟩:=hI; rfl) (I38_1 a0) hI ?_ ?_
 ·rintro v3_1 _ e h ⟨k5,rfl,h_4⟩ hlt hw o ho
  unfold F38_1_B at ho;obtain⟨x7,gx7,ho⟩:=bS ho;obtain⟨w8a,w8b⟩:=qf gx7;obtain⟨x9,gx9,ho⟩:=bS ho;obtain⟨w10a,w10b⟩:=qf gx9;by_cases c11:(x7.length:Int)=x9
  ·rw[if_pos c11]at ho
   obtain⟨t23,gt23,ho⟩:=bS ho;rcases t23 with _|r24
   ·dsimp only at ho
    simp only[simprocAttr,R0,b38_1, *];refine W.mono (l38_2 a0 v3_1 gt23 (ei _ (ai rfl ?_))) ?_
    ·simp only[simprocAttr,R0, *]
    rintro _ e _ ⟨rfl,k13,rfl,h_14⟩;cases ho;simp only[simprocAttr,R0, *];refine ai rfl (ei _ (ai rfl ?_));simp only[simprocAttr,R0, *]
   ·dsimp only at ho
    cases ho;simp only[simprocAttr,R0,b38_1, *];refine W.mono (l38_2 a0 v3_1 gt23 (ei _ (ai rfl ?_))) ?_
    ·simp only[simprocAttr,R0, *]
    rintro _ e h ⟨rfl,hq⟩;simp only[simprocAttr,RR,RB];intro ht; subst ht;simp only[simprocAttr,RR,RB];exact ai rfl hq
  ·rw[if_neg c11]at ho
   cases ho;simp only[simprocAttr,R0,b38_1, *];intro ht;(first|subst ht|cases t);simp only[simprocAttr,RR,RB];exact ai rfl (qd (by simp only[simprocAttr,R0,qb,p38,Rs.ev,qa, *]))
 ·rintro v3_1 _ e h ⟨k5,rfl,h_4⟩ hge t1 ho
  unfold F38_1_D at ho;cases ho;simp only[simprocAttr,R0,b38_1, *];intro ht;(first|subst ht|cases t);refine ai rfl (ei _ (ai rfl ?_));simp only[simprocAttr,R0, *]
def I38_5(a0:GFiltered)(v5_3:Int)(x29:List (List Int))(v7_4:Int)(v8_5:Int)(e:Env)(h:Heap):Prop:=
 ∃k35:Nat,h=⟨[(0,none)],k35⟩∧e.length=109∧e.at 1=V.iptr [V.int .i64 a0.Complex.Prime,V.isl (a0.Complex.Dims.map enc),V.isl (a0.Complex.Maps.map enc),V.isl (a0.Levels.map enc)]∧e.at 5=V.int .i64 v5_3∧e.at 6=V.isl (x29.map enc)∧e.at 7=V.int .i64 v7_4∧e.at 8=V.int .i64 v8_5
def P38_5(a0:GFiltered)(v5_3:Int)(x29:List (List Int))(v7_4:Int)(t:(Unit)⊕Bool)(x:Ex)(e:Env)(h:Heap):Prop:=
 match t with
 | .inl _=> x= .normal∧∃k35:Nat,h=⟨[(0,none)],k35⟩∧e.length=109∧e.at 1=V.iptr [V.int .i64 a0.Complex.Prime,V.isl (a0.Complex.Dims.map enc),V.isl (a0.Complex.Maps.map enc),V.isl (a0.Levels.map enc)]∧e.at 5=V.int .i64 v5_3∧e.at 6=V.isl (x29.map enc)∧e.at 7=V.int .i64 v7_4
 | .inr r=> x= .ret∧Fin p38 (enc r) .ret e h
theorem l38_5(a0:GFiltered)(v5_3:Int)(x29:List (List Int))(v7_4:Int){s:Int}{t:(Unit)⊕Bool}(hF:qB (F38_5_S a0 v5_3 x29 v7_4) s=some t){e:Env}{h:Heap}(hI:I38_5 a0 v5_3 x29 v7_4 s e h):W A c38_5 e h (P38_5 a0 v5_3 x29 v7_4 t):=by
 show W A (.block 8 (.loop false b38_5)) e h _;rw[qh];refine zy hF 1 (by obtain⟨_,rfl,_⟩:=hI; rfl) (I38_5 a0 v5_3 x29 v7_4) hI ?_
 ·rintro v8_5 e h ⟨k35,rfl,h_34⟩ o ho
  unfold F38_5_S at ho;obtain⟨x37,gx37,ho⟩:=bS ho;obtain⟨w38a,w38b⟩:=qf gx37;by_cases c39:v8_5 < (x37.length:Int)
  ·rw[if_pos c39]at ho
   obtain⟨x40,gx40,ho⟩:=bS ho;obtain⟨w41a,w41b⟩:=qf gx40;by_cases c42:x40=0
   ·rw[if_pos c42]at ho
    obtain⟨x43,gx43,ho⟩:=bS ho;have wx43:=qm gx43;cases ho;simp only[simprocAttr,R0,b38_5, *];refine ai rfl (ei _ (ai rfl ?_));simp only[simprocAttr,R0, *]
   ·rw[if_neg c42]at ho
    obtain⟨x44,gx44,ho⟩:=bS ho;have wx44:=qm gx44;obtain⟨x45,gx45,ho⟩:=bS ho;have w46:=s77 a0 x44 v8_5 gx45;obtain⟨x47,gx47,ho⟩:=bS ho;have w48:=s77 a0 v5_3 v7_4 gx47;by_cases c49:x47 < x45
    ·rw[if_pos c49]at ho
     cases ho;simp only[simprocAttr,R0,b38_5, *];intro ht;(first|subst ht|cases t);simp only[simprocAttr,RR,RB];exact ai rfl (qd (by simp only[simprocAttr,R0,qb,p38,Rs.ev,qa, *]))
    ·rw[if_neg c49]at ho
     obtain⟨x50,gx50,ho⟩:=bS ho;have wx50:=qm gx50;cases ho;simp only[simprocAttr,R0,b38_5, *];refine ai rfl (ei _ (ai rfl ?_));simp only[simprocAttr,R0, *]
  ·rw[if_neg c39]at ho
   cases ho;simp only[simprocAttr,R0,b38_5, *];intro ht;(first|subst ht|cases t);simp only[simprocAttr,RR,RB];refine ai rfl (ei _ (ai rfl ?_));simp only[simprocAttr,R0, *]
def I38_4(a0:GFiltered)(v5_3:Int)(x29:List (List Int))(v7_4:Int)(s:Unit)(e:Env)(h:Heap):Prop:=
 ∃k32:Nat,h=⟨[(0,none)],k32⟩∧e.length=109∧e.at 1=V.iptr [V.int .i64 a0.Complex.Prime,V.isl (a0.Complex.Dims.map enc),V.isl (a0.Complex.Maps.map enc),V.isl (a0.Levels.map enc)]∧e.at 5=V.int .i64 v5_3∧e.at 6=V.isl (x29.map enc)∧e.at 7=V.int .i64 v7_4
def P38_4(a0:GFiltered)(v5_3:Int)(x29:List (List Int))(t:(Unit)⊕Bool)(x:Ex)(e:Env)(h:Heap):Prop:=
 match t with
 | .inl _=> x= .normal∧∃k32:Nat,h=⟨[(0,none)],k32⟩∧e.length=109∧e.at 1=V.iptr [V.int .i64 a0.Complex.Prime,V.isl (a0.Complex.Dims.map enc),V.isl (a0.Complex.Maps.map enc),V.isl (a0.Levels.map enc)]∧e.at 5=V.int .i64 v5_3
 | .inr r=> x= .ret∧Fin p38 (enc r) .ret e h
theorem l38_4(a0:GFiltered)(v5_3:Int)(x29:List (List Int)){lo:Int}{s:Unit}{t:(Unit)⊕Bool}(hF:forR lo (x29.length:Int) (F38_4_B a0 v5_3 x29) (F38_4_D a0 v5_3 x29) s=some t){e:Env}{h:Heap}(hI:I38_4 a0 v5_3 x29 lo s e h):W A c38_4 e h (P38_4 a0 v5_3 x29 t):=by
 show W A (.block 6 (.loop false b38_4)) e h _;rw[qh];refine qv hF 1 (by obtain⟨_,rfl,_⟩:=hI; rfl) (I38_4 a0 v5_3 x29) hI ?_ ?_
 ·rintro v7_4 _ e h ⟨k32,rfl,h_31⟩ hlt hw o ho
  unfold F38_4_B at ho;obtain⟨t51,gt51,ho⟩:=bS ho;rcases t51 with _|r52
  ·dsimp only at ho
   simp only[simprocAttr,R0,b38_4, *];refine W.mono (l38_5 a0 v5_3 x29 v7_4 gt51 (ei _ (ai rfl ?_))) ?_
   ·simp only[simprocAttr,R0, *]
   rintro _ e _ ⟨rfl,k35,rfl,h_36⟩;cases ho;simp only[simprocAttr,R0, *];refine ai rfl (ei _ (ai rfl ?_));simp only[simprocAttr,R0, *]
  ·dsimp only at ho
   cases ho;simp only[simprocAttr,R0,b38_4, *];refine W.mono (l38_5 a0 v5_3 x29 v7_4 gt51 (ei _ (ai rfl ?_))) ?_
   ·simp only[simprocAttr,R0, *]
   rintro _ e h ⟨rfl,hq⟩;simp only[simprocAttr,RR,RB];intro ht; subst ht;simp only[simprocAttr,RR,RB];exact ai rfl hq
 ·rintro v7_4 _ e h ⟨k32,rfl,h_31⟩ hge t1 ho
  unfold F38_4_D at ho;cases ho;simp only[simprocAttr,R0,b38_4, *];intro ht;(first|subst ht|cases t);refine ai rfl (ei _ (ai rfl ?_));simp only[simprocAttr,R0, *]
def I38_3(a0:GFiltered)(v5_3:Int)(s:Unit)(e:Env)(h:Heap):Prop:=
 ∃k27:Nat,h=⟨[(0,none)],k27⟩∧e.length=109∧e.at 1=V.iptr [V.int .i64 a0.Complex.Prime,V.isl (a0.Complex.Dims.map enc),V.isl (a0.Complex.Maps.map enc),V.isl (a0.Levels.map enc)]∧e.at 5=V.int .i64 v5_3
def P38_3(a0:GFiltered)(t:(Unit)⊕Bool)(x:Ex)(e:Env)(h:Heap):Prop:=
 match t with
 | .inl _=> x= .normal∧∃k27:Nat,h=⟨[(0,none)],k27⟩∧e.length=109
 | .inr r=> x= .ret∧Fin p38 (enc r) .ret e h
theorem l38_3(a0:GFiltered){lo:Int}{s:Unit}{t:(Unit)⊕Bool}(hF:forR lo (a0.Levels.length:Int) (F38_3_B a0) (F38_3_D a0) s=some t){e:Env}{h:Heap}(hI:I38_3 a0 lo s e h):W A c38_3 e h (P38_3 a0 t):=by
 show W A (.block 4 (.loop false b38_3)) e h _;rw[qh];refine qv hF 1 (by obtain⟨_,rfl,_⟩:=hI; rfl) (I38_3 a0) hI ?_ ?_
 ·rintro v5_3 _ e h ⟨k27,rfl,h_26⟩ hlt hw o ho
  unfold F38_3_B at ho;obtain⟨x29,gx29,ho⟩:=bS ho;have w30:=s76 a0.Complex v5_3 gx29;obtain⟨t53,gt53,ho⟩:=bS ho;rcases t53 with _|r54
  ·dsimp only at ho
   simp only[simprocAttr,R0,b38_3, *];refine W.mono (l38_4 a0 v5_3 x29 gt53 (ei _ (ai rfl ?_))) ?_
   ·simp only[simprocAttr,R0, *]
   rintro _ e _ ⟨rfl,k32,rfl,h_33⟩;cases ho;simp only[simprocAttr,R0, *];refine ai rfl (ei _ (ai rfl ?_));simp only[simprocAttr,R0, *]
  ·dsimp only at ho
   cases ho;simp only[simprocAttr,R0,b38_3, *];refine W.mono (l38_4 a0 v5_3 x29 gt53 (ei _ (ai rfl ?_))) ?_
   ·simp only[simprocAttr,R0, *]
   rintro _ e h ⟨rfl,hq⟩;simp only[simprocAttr,RR,RB];intro ht; subst ht;simp only[simprocAttr,RR,RB];exact ai rfl hq
 ·rintro v5_3 _ e h ⟨k27,rfl,h_26⟩ hge t1 ho
  unfold F38_3_D at ho;cases ho;simp only[simprocAttr,R0,b38_3, *];intro ht;(first|subst ht|cases t);refine ai rfl (ei _ (ai rfl ?_));simp only[simprocAttr,R0, *]
theorem s38(a0:GFiltered){r:Bool}(hF:F38 a0=some r):ans A 38 [(eF a0)]=some (enc r):=by
 refine qp (f:=p38) rfl rfl rfl fun e hl he=>?_;have h0_0:e.at 0=(eF a0):=he 0 _ rfl;have hl_0:e.length=109:=hl;clear he hl;have h_0:=ai hl_0 h0_0;show W A b38 e ⟨[],0⟩ _;unfold F38 at hF;obtain⟨x1,gx1,hF⟩:=bS hF;have w2:=s39 a0.Complex gx1;cases x1 with
 |true=>
  rw[if_pos rfl]at hF;by_cases c3:(a0.Levels.length:Int)=(a0.Complex.Dims.length:Int)
  ·rw[if_pos c3]at hF
   obtain⟨t25,gt25,hF⟩:=bS hF;rcases t25 with _|r57
   ·dsimp only at hF
    simp only[simprocAttr,R0,b38, *];refine W.mono (l38_1 a0 gt25 (ei _ (ai rfl ?_))) ?_
    ·simp only[simprocAttr,R0, *]
    rintro _ e _ ⟨rfl,k5,rfl,h_6⟩;obtain⟨t55,gt55,hF⟩:=bS hF;rcases t55 with _|r56
    ·dsimp only at hF
     simp only[simprocAttr,R0, *];refine W.mono (l38_3 a0 gt55 (ei _ (ai rfl ?_))) ?_
     ·simp only[simprocAttr,R0, *]
     rintro _ e _ ⟨rfl,k27,rfl,hl_28⟩;cases hF;simp only[simprocAttr,R0, *];exact qd (by simp only[simprocAttr,R0,qb,p38,Rs.ev,qa, *])
    ·dsimp only at hF
     cases hF;simp only[simprocAttr,R0, *];refine W.mono (l38_3 a0 gt55 (ei _ (ai rfl ?_))) ?_
     ·simp only[simprocAttr,R0, *]
     rintro _ e h ⟨rfl,hq⟩;simp only[simprocAttr,RR,RB];exact hq
   ·dsimp only at hF
    cases hF;simp only[simprocAttr,R0,b38, *];refine W.mono (l38_1 a0 gt25 (ei _ (ai rfl ?_))) ?_
    ·simp only[simprocAttr,R0, *]
    rintro _ e h ⟨rfl,hq⟩;simp only[simprocAttr,RR,RB];exact hq
  ·rw[if_neg c3]at hF
   cases hF;simp only[simprocAttr,R0,b38, *];exact qd (by simp only[simprocAttr,R0,qb,p38,Rs.ev,qa, *])
 |false=>
  rw[if_neg wE]at hF;cases hF;simp only[simprocAttr,R0,b38, *];exact qd (by simp only[simprocAttr,R0,qb,p38,Rs.ev,qa, *])
def F94(a0:List Int):Option (List Int):=
 (app 8 ([]:List Int) a0).bind fun l2=>
 some l2
theorem s94(a0:List Int){r:List Int}(hF:F94 a0=some r):ans A 94 [V.isl (a0.map enc)]=some (enc r):=by
 refine qp (f:=p94) rfl rfl rfl fun e hl he=>?_;have h0_0:e.at 0=V.isl (a0.map enc):=he 0 _ rfl;have hl_0:e.length=6:=hl;clear he hl;show W A b94 e ⟨[],0⟩ _;unfold F94 at hF;obtain⟨l2,gl2,hF⟩:=bS hF;have w1:=fun ents key uid clk he=> qD (α:=Int) (n:=0) (m:=a0.length) (ds:=List.map enc a0) gl2 (by first|rfl|simp only[vH]) (by first|rfl|simp only[vH]) rfl ents key uid clk he;have w1l:=qZ gl2;have hE:=wA hF; subst hE;simp only[simprocAttr, -Int.reduceNatCast',R0,b94,hl_0,h0_0,w1];exact qd (by simp only[simprocAttr, -Int.reduceNatCast',R0,qb,p94,Rs.ev,qa,hl_0,h0_0,w1,frzs (α:=Int) l2,zd (α:=Int) l2])
theorem t94(a0:List Int){r:List Int}(hF:F94 a0=some r):tans A 94 [1] [V.isl (a0.map enc)]=some (enc r):=by
 refine tans_of (f:=p94) rfl rfl rfl fun e hl he=>?_;have h0_0:e.at 0=V.isl (a0.map enc):=he 0 _ rfl;have hl_0:e.length=6:=hl;clear he hl;show W A b94 e ⟨[],0⟩ _;unfold F94 at hF;obtain⟨l2,gl2,hF⟩:=bS hF;have w1:=fun ents key uid clk he=> qD (α:=Int) (n:=0) (m:=a0.length) (ds:=List.map enc a0) gl2 (by first|rfl|simp only[vH]) (by first|rfl|simp only[vH]) rfl ents key uid clk he;have w1l:=qZ gl2;have hE:=wA hF; subst hE;simp only[simprocAttr, -Int.reduceNatCast',R0,b94,hl_0,h0_0,w1];exact tfin_ret (by simp only[simprocAttr, -Int.reduceNatCast',R0,qb,p94,Rs.ev,qa,hl_0,h0_0,w1,frzs (α:=Int) l2,zd (α:=Int) l2])
def F127(a0:Int)(a1:Int):Option Int:=
 (remI a1 a0).bind fun x1=>
 (chk (x1+a0)).bind fun x3=>
 (remI x3 a0).bind fun x4=>
 some x4
theorem s127(a0:Int)(a1:Int){r:Int}(hF:F127 a0 a1=some r):ans A 127 [V.int .i64 a0,V.int .i64 a1]=some (enc r):=by
 refine qp (f:=p127) rfl rfl rfl fun e hl he=>?_;have h0_0:e.at 0=V.int .i64 a0:=he 0 _ rfl;have h1_0:e.at 1=V.int .i64 a1:=he 1 _ rfl;have hl_0:e.length=12:=hl;clear he hl;show W A b127 e ⟨[],0⟩ _;unfold F127 at hF;obtain⟨x1,gx1,hF⟩:=bS hF;obtain⟨w2a,w2b⟩:=rem_w gx1;obtain⟨x3,gx3,hF⟩:=bS hF;have wx3:=qm gx3;obtain⟨x4,gx4,hF⟩:=bS hF;obtain⟨w5a,w5b⟩:=rem_w gx4;cases hF;simp only[simprocAttr,R0,b127, *];exact qd (by simp only[simprocAttr,R0,qb,p127,Rs.ev,qa, *])
def F136_1_B(a0:Int)(a1:List Int)(a2:List Int)(a3:Int)(v10_1:Int)(o0_1:(List Int)):Option (((List Int))⊕((List Int))):=
 (getI a1 v10_1).bind fun x5=>
(getI a2 v10_1).bind fun x7=>
(chk (a3*x7)).bind fun x9=>
(chk (x5 - x9)).bind fun x10=>
(F127 a0 x10).bind fun x11=>
(app 8 o0_1 [x11]).bind fun l14=>
some (.inl l14)
def F136_1_D(a0:Int)(a1:List Int)(a2:List Int)(a3:Int)(v10_1:Int)(o0_1:(List Int)):Option ((List Int)):=
 some o0_1
def F136(a0:Int)(a1:List Int)(a2:List Int)(a3:Int):Option (List Int):=
 (forR 0 (a1.length:Int) (F136_1_B a0 a1 a2 a3) (F136_1_D a0 a1 a2 a3) ([]:(List Int))).bind fun zo0_1=>
 some zo0_1
def I136_1(a0:Int)(a1:List Int)(a2:List Int)(a3:Int)(v10_1:Int)(o0_1:(List Int))(e:Env)(h:Heap):Prop:=
 ∃u2 k3:Nat,h=⟨[(u2,some (o0_1.map enc))],k3⟩∧e.length=35∧e.at 0=V.int .i64 a0∧e.at 1=V.isl (a1.map enc)∧e.at 2=V.isl (a2.map enc)∧e.at 3=V.int .i64 a3∧e.at 9=V.sl 0 u2 0 o0_1.length 1∧e.at 10=V.int .i64 v10_1
def P136_1(a0:Int)(a1:List Int)(a2:List Int)(a3:Int)(zo0_1:(List Int))(x:Ex)(e:Env)(h:Heap):Prop:=
 x= .normal∧∃u2 k3:Nat,h=⟨[(u2,some (zo0_1.map enc))],k3⟩∧e.length=35∧e.at 9=V.sl 0 u2 0 zo0_1.length 1
theorem l136_1(a0:Int)(a1:List Int)(a2:List Int)(a3:Int){lo:Int}{s:(List Int)}{t:(List Int)}(hF:forR lo (a1.length:Int) (F136_1_B a0 a1 a2 a3) (F136_1_D a0 a1 a2 a3) s=some t){e:Env}{h:Heap}(hI:I136_1 a0 a1 a2 a3 lo s e h):W A c136_1 e h (P136_1 a0 a1 a2 a3 t):=by
 show W A (.block 0 (.loop false b136_1)) e h _;rw[qh];refine qv hF 1 (by obtain⟨_,_,rfl,_⟩:=hI; rfl) (I136_1 a0 a1 a2 a3) hI ?_ ?_
 ·rintro v10_1 o0_1 e h ⟨u2,k3,rfl,h_1⟩ hlt hw o ho
  unfold F136_1_B at ho;obtain⟨x5,gx5,ho⟩:=bS ho;obtain⟨w6a,w6b⟩:=qf gx5;obtain⟨x7,gx7,ho⟩:=bS ho;obtain⟨w8a,w8b⟩:=qf gx7;obtain⟨x9,gx9,ho⟩:=bS ho;have wx9:=qm gx9;obtain⟨x10,gx10,ho⟩:=bS ho;have wx10:=qm gx10;obtain⟨x11,gx11,ho⟩:=bS ho;have w12:=s127 a0 x10 gx11;obtain⟨l14,gl14,ho⟩:=bS ho;have w13:=fun a b c d e=> qD (α:=Int) (n:=o0_1.length) (m:=1) (ds:=[V.int .i64 x11]) gl14 (by first|rfl|simp) (by first|rfl|simp) rfl a b c d e;have w13l:=qZ gl14;cases ho;simp only[simprocAttr,R0,b136_1, *];refine ai rfl (ei _ (ei _ (ai rfl ?_)));simp only[simprocAttr,R0, *]
 ·rintro v10_1 o0_1 e h ⟨u2,k3,rfl,h_1⟩ hge t1 ho
  unfold F136_1_D at ho;cases ho;simp only[simprocAttr,R0,b136_1, *];intro ht;(first|subst ht|cases t);refine ai rfl (ei _ (ei _ (ai rfl ?_)));simp only[simprocAttr,R0, *]
theorem t136(a0:Int)(a1:List Int)(a2:List Int)(a3:Int){r:List Int}(hF:F136 a0 a1 a2 a3=some r):tans A 136 [1] [V.int .i64 a0,V.isl (a1.map enc),V.isl (a2.map enc),V.int .i64 a3]=some (enc r):=by
 refine tans_of (f:=p136) rfl rfl rfl fun e hl he=>?_;have h0_0:e.at 0=V.int .i64 a0:=he 0 _ rfl;have h1_0:e.at 1=V.isl (a1.map enc):=he 1 _ rfl;have h2_0:e.at 2=V.isl (a2.map enc):=he 2 _ rfl;have h3_0:e.at 3=V.int .i64 a3:=he 3 _ rfl;have hl_0:e.length=35:=hl;clear he hl;show W A b136 e ⟨[],0⟩ _;unfold F136 at hF;obtain⟨zo0_1,gt15,hF⟩:=bS hF;simp only[simprocAttr, -Int.reduceNatCast',R0,b136, *];refine W.mono (l136_1 a0 a1 a2 a3 gt15 (ei _ (ei _ (ai rfl ?_)))) ?_
 ·simp only[simprocAttr, -Int.reduceNatCast',R0, *]
 rintro _ e _ ⟨rfl,u2,k3,rfl,hl_4,h9_4⟩;have hE:=wA hF; subst hE;simp only[simprocAttr, -Int.reduceNatCast',R0, *];exact tfin_ret (by simp only[simprocAttr, -Int.reduceNatCast',R0,qb,p136,Rs.ev,qa,frzs (α:=Int) zo0_1,zd (α:=Int) zo0_1, *])
def F134_1_B(a0:Int)(a1:List (List Int))(v8_1:Int)(v7_1:(List Int)):Option (((List Int))⊕((List Int))):=
 (getI a1 v8_1).bind fun x6=>
(F81 x6).bind fun x8=>
(getI v7_1 x8).bind fun x10=>
(F136 a0 v7_1 x6 x10).bind fun x12=>
some (.inl x12)
def F134_1_D(a0:Int)(a1:List (List Int))(v8_1:Int)(v7_1:(List Int)):Option ((List Int)):=
 some v7_1
def F134(a0:Int)(a1:List (List Int))(a2:List Int):Option (List Int):=
 (F94 a2).bind fun x1=>
 (forR 0 (a1.length:Int) (F134_1_B a0 a1) (F134_1_D a0 a1) x1).bind fun zv7_1=>
 some zv7_1
theorem d134(a0:Int)(a1:List (List Int))(a2:List Int){r:List Int}(hF:F134 a0 a1 a2=some r):∃v h',res A 134 [V.int .i64 a0,V.isl (a1.map enc),V.isl (a2.map enc)] Heap.empty=some (v,h')∧∃K,Deep.rep h' v r K:=by
 refine res_dp (f:=p134) rfl rfl rfl fun e hl he=>?_;have h0_0:e.at 0=V.int .i64 a0:=he 0 _ rfl;have h1_0:e.at 1=V.isl (a1.map enc):=he 1 _ rfl;have h2_0:e.at 2=V.isl (a2.map enc):=he 2 _ rfl;have hl_0:e.length=33:=hl;clear he hl;show W A b134 e ⟨[],0⟩ _;unfold F134 at hF;obtain⟨o,go,hF⟩:=bS hF;have wo:tans A 94 [1] [V.isl (a2.map enc)]=some (V.isl (o.map enc)):=t94 a2 go;obtain⟨t,gt,hF⟩:=bS hF;cases hF;simp only[simprocAttr,R1,b134,qL,zI, *];show W A (.block 0 (.loop true b134_1)) _ _ _;rw[qh];refine qv gt _ rfl (fun i q e h=>∃k u,h.ents[k]? =some (u,some (q.map enc))∧e.length=33∧e.at 0=V.int .i64 a0∧e.at 1=V.isl (a1.map enc)∧e.at 7=V.sl k u 0 q.length 1∧e.at 8=V.int .i64 i) ?_ ?_ ?_
 ·refine⟨0,0,rfl,?_⟩
  simp only[simprocAttr,R1, *]
 ·clear hl_0 h0_0 h1_0 h2_0
  rintro i q e ⟨E,c⟩ ⟨k,u,g1,h_1⟩ hlt hw s' ho;unfold F134_1_B at ho;simp only at g1;obtain⟨x6,gx6,ho⟩:=bS ho;obtain⟨x6a,x6b⟩:=qf gx6;obtain⟨x8,gx8,ho⟩:=bS ho;have w8:=s81 x6 gx8;obtain⟨x10,gx10,ho⟩:=bS ho;obtain⟨x10a,x10b⟩:=qf gx10;have x10c:=za gx10;obtain⟨x12,gx12,ho⟩:=bS ho;have w12:tans A 136 [1] [V.int .i64 a0,V.isl (q.map enc),V.isl (x6.map enc),V.int .i64 x10]=some (V.isl (x12.map enc)):=t136 a0 q x6 x10 gx12;cases ho;have wfz:frz ⟨E,c⟩ 16 (V.sl k u 0 q.length 1)=some (V.isl (q.map enc)):=frz_row g1;have wbr:=bare_one (α:=Int) x12;have o10:qR none (List.drop x8.toNat (q.map enc))=some (V.int .i64 x10):=qw (by rw[List.getElem?_map,x10b]; rfl);simp only[simprocAttr,R1,b134_1,x6a,x6b,x10a,eq_true x10c,o10,qL,zI, *];refine ai rfl ⟨_,_,qH _ _,?_⟩;simp only[simprocAttr,R1, *]
 ·clear hl_0 h0_0 h1_0 h2_0
  rintro i q e ⟨E,c⟩ ⟨k,u,g1,h_1⟩ hge t1 ho;unfold F134_1_D at ho;cases ho;simp only at g1;simp only[simprocAttr,R1,b134_1, *];intro ht; subst ht;refine ai (fun _=> trivial) ⟨_,?_,fun x=> x=k,int_row (l:=q) g1 fun x=> yH⟩;simp only[simprocAttr,R1,qb,p134,Rs.ev, *]
theorem t134(a0:Int)(a1:List (List Int))(a2:List Int){r:List Int}(hF:F134 a0 a1 a2=some r):tans A 134 [1] [V.int .i64 a0,V.isl (a1.map enc),V.isl (a2.map enc)]=some (enc r):=jC (α:=List Int) (by decide) (d134 a0 a1 a2 hF)
def F135_1_B(a0:Int)(a1:Int)(v5_1:Int)(s:Unit):Option ((Unit)⊕((Unit)⊕Int)):=
 (F127 a0 a1).bind fun x4=>
(chk (v5_1*x4)).bind fun x6=>
(remI x6 a0).bind fun x7=>
if x7=1 then
 some (.inr (.inr v5_1))
else
 some (.inl ())
def F135_1_D(a0:Int)(a1:Int)(v5_1:Int)(s:Unit):Option ((Unit)⊕Int):=
 some (.inl ())
def F135(a0:Int)(a1:Int):Option Int:=
 (forR 1 a0 (F135_1_B a0 a1) (F135_1_D a0 a1) ()).bind fun t10=> match t10 with
  | .inl _=>
   some 0
  | .inr r11=> some r11
def I135_1(a0:Int)(a1:Int)(v5_1:Int)(s:Unit)(e:Env)(h:Heap):Prop:=
 ∃k2:Nat,h=⟨[],k2⟩∧e.length=20∧e.at 0=V.int .i64 a0∧e.at 1=V.int .i64 a1∧e.at 5=V.int .i64 v5_1
def P135_1(a0:Int)(a1:Int)(t:(Unit)⊕Int)(x:Ex)(e:Env)(h:Heap):Prop:=
 match t with
 | .inl _=> x= .normal∧∃k2:Nat,h=⟨[],k2⟩∧e.length=20
 | .inr r=> x= .ret∧Fin p135 (enc r) .ret e h
theorem l135_1(a0:Int)(a1:Int){lo:Int}{s:Unit}{t:(Unit)⊕Int}(hF:forR lo a0 (F135_1_B a0 a1) (F135_1_D a0 a1) s=some t){e:Env}{h:Heap}(hI:I135_1 a0 a1 lo s e h):W A c135_1 e h (P135_1 a0 a1 t):=by
 show W A (.block 0 (.loop false b135_1)) e h _;rw[qh];refine qv hF 0 (by obtain⟨_,rfl,_⟩:=hI; rfl) (I135_1 a0 a1) hI ?_ ?_
 ·rintro v5_1 _ e h ⟨k2,rfl,h_1⟩ hlt hw o ho
  unfold F135_1_B at ho;obtain⟨x4,gx4,ho⟩:=bS ho;have w5:=s127 a0 a1 gx4;obtain⟨x6,gx6,ho⟩:=bS ho;have wx6:=qm gx6;obtain⟨x7,gx7,ho⟩:=bS ho;obtain⟨w8a,w8b⟩:=rem_w gx7;by_cases c9:x7=1
  ·rw[if_pos c9]at ho
   cases ho;simp only[simprocAttr,R0,b135_1, *];intro ht;(first|subst ht|cases t);simp only[simprocAttr,RR,RB];exact ai rfl (qd (by simp only[simprocAttr,R0,qb,p135,Rs.ev,qa, *]))
  ·rw[if_neg c9]at ho
   cases ho;simp only[simprocAttr,R0,b135_1, *];refine ai rfl (ei _ (ai rfl ?_));simp only[simprocAttr,R0, *]
 ·rintro v5_1 _ e h ⟨k2,rfl,h_1⟩ hge t1 ho
  unfold F135_1_D at ho;cases ho;simp only[simprocAttr,R0,b135_1, *];intro ht;(first|subst ht|cases t);refine ai rfl (ei _ (ai rfl ?_));simp only[simprocAttr,R0, *]
theorem s135(a0:Int)(a1:Int){r:Int}(hF:F135 a0 a1=some r):ans A 135 [V.int .i64 a0,V.int .i64 a1]=some (enc r):=by
 refine qp (f:=p135) rfl rfl rfl fun e hl he=>?_;have h0_0:e.at 0=V.int .i64 a0:=he 0 _ rfl;have h1_0:e.at 1=V.int .i64 a1:=he 1 _ rfl;have hl_0:e.length=20:=hl;clear he hl;have h_0:=ai hl_0 (ai h0_0 h1_0);show W A b135 e ⟨[],0⟩ _;unfold F135 at hF;obtain⟨t10,gt10,hF⟩:=bS hF;rcases t10 with _|r11
 ·dsimp only at hF
  simp only[simprocAttr,R0,b135, *];refine W.mono (l135_1 a0 a1 gt10 (ei _ (ai rfl ?_))) ?_
  ·simp only[simprocAttr,R0, *]
  rintro _ e _ ⟨rfl,k2,rfl,hl_3⟩;cases hF;simp only[simprocAttr,R0, *];exact qd (by simp only[simprocAttr,R0,qb,p135,Rs.ev,qa, *])
 ·dsimp only at hF
  cases hF;simp only[simprocAttr,R0,b135, *];refine W.mono (l135_1 a0 a1 gt10 (ei _ (ai rfl ?_))) ?_
  ·simp only[simprocAttr,R0, *]
  rintro _ e h ⟨rfl,hq⟩;simp only[simprocAttr,RR,RB];exact hq
def F131_2_B(p b:Int)(k:Int)(row:List Int):Option (List Int⊕List Int):=(getI row k).bind fun x=>(chk (x*b)).bind fun m=>(remI m p).bind fun z=>(setI row k z).bind fun r=> some (.inl r)
def F131_2_D(k:Int)(row:List Int):Option (List Int):=some row
def F131_3_C(out:List (List Int))(at_:Int)(k:Int)(put:Bool):Option Bool:=if put=true then some false else(getI out k).bind fun o=>(F81 o).bind fun ld=> some (decide (at_ < ld))
def F131_3_B(p:Int)(out:List (List Int))(own:List Int)(at_:Int)(k:Int)(s:List (List Int)×Bool):Option ((List (List Int)×Bool)⊕(List (List Int)×Bool)):=
 (F131_3_C out at_ k s.2).bind fun c=>(if c=true then(app 24 s.1 [own]).bind fun n=> some (n,true)else some s).bind fun s2=>
 (getI out k).bind fun o=>(getI o at_).bind fun y=>(F136 p o own y).bind fun q=>(app 24 s2.1 [q]).bind fun n=> some (.inl (n,s2.2))
def F131_3_D(k:Int)(s:List (List Int)×Bool):Option (List (List Int)×Bool):=some s
def F131_1_B(p:Int)(rows:List (List Int))(i:Int)(out:List (List Int)):Option (List (List Int)⊕List (List Int)):=
 (getI rows i).bind fun row=>(F134 p out row).bind fun own=>(F81 own).bind fun at_=> if at_ < 0 then some (.inl out)else
 (getI own at_).bind fun x=>(F135 p x).bind fun inv=>(forR 0 (own.length:Int) (F131_2_B p inv) F131_2_D own).bind fun own'=>
 (forR 0 (out.length:Int) (F131_3_B p out own' at_) F131_3_D ([],false)).bind fun s=> if s.2=true then some (.inl s.1)else(app 24 s.1 [own']).bind fun n=> some (.inl n)
def F131_1_D(i:Int)(out:List (List Int)):Option (List (List Int)):=some out
def F131(p:Int)(rows:List (List Int)):Option (List (List Int)):=forR 0 (rows.length:Int) (F131_1_B p rows) F131_1_D []
theorem d131(p:Int)(rows:List (List Int)){r:List (List Int)}(hF:F131 p rows=some r):∃v h',res A 131 [V.int .i64 p,V.isl (rows.map enc)] Heap.empty=some (v,h')∧
  ∃k u vs,v=V.sl k u 0 r.length 1∧h'.ents[k]? =some (u,some vs)∧Rws h'.ents (fun _=> True) vs r:=by
 refine res_dp (f:=p131) rfl rfl rfl fun e hl he=>?_;have h0_0:e.at 0=V.int .i64 p:=he 0 _ rfl;have h1_0:e.at 1=V.isl (rows.map enc):=he 1 _ rfl;have hl_0:e.length=102:=hl;clear he hl;show W A b131 e ⟨[],0⟩ _;unfold F131 at hF;simp only[simprocAttr, -Int.reduceNatCast',R1,b131,hl_0,h0_0,h1_0];show W A (.block 0 (.loop true b131_1)) _ _ _;rw[qh];refine qv hF _ rfl (fun i out e h=>∃ko uo vs,h.ents[ko]? =some (uo,some vs)∧Rws h.ents (fun _=> True) vs out∧e.length=102∧e.at 0=V.int .i64 p∧e.at 1=V.isl (rows.map enc)∧e.at 5=V.sl ko uo 0 out.length 1∧e.at 6=V.int .i64 i) ?_ ?_ ?_
 ·refine⟨0,0,[],rfl,.nil,?_⟩
  simp only[simprocAttr, -Int.reduceNatCast',R1,hl_0,h0_0,h1_0]
 ·clear hl_0 h0_0 h1_0
  rintro i out e ⟨E,c⟩ ⟨ko,uo,vs,g1,g2,hl_1,h0_1,h1_1,h5_1,h6_1⟩ hlt hw s' ho;unfold F131_1_B at ho;simp only at g1 g2;have hko:ko < E.length:=(List.getElem?_eq_some_iff.1 g1).1;obtain⟨row,gr,ho⟩:=bS ho;obtain⟨ra,rb⟩:=qf gr;obtain⟨own,gown,ho⟩:=bS ho;have wown:tans A 134 [1] [V.int .i64 p,V.isl (out.map enc),V.isl (row.map enc)]=some (V.isl (own.map enc)):=t134 p out row gown;obtain⟨at_,gat,ho⟩:=bS ho;have wat:ans A 81 [V.isl (own.map enc)]=some (V.int .i64 at_):=s81 own gat;have wfo:=g2.fz c g1;have wbr:=bare_one (α:=Int) own;have wfr:∀z:List Int,∀c',frz ⟨E++[(c,some (z.map enc))],c'⟩ 16 (V.sl E.length c 0 z.length 1)=some (V.isl (z.map enc)):=fun z c'=> frz_row (qH _ _);have wfr0:=wfr own;by_cases hat:at_ < 0
  ·rw[if_pos hat]at ho
   have hE:=wA ho; subst hE;simp only[simprocAttr, -Int.reduceNatCast',R1,b131_1,hl_1,h0_1,h1_1,h5_1,h6_1,eq_true hlt,hw,ra,rb,wfo,wown,wbr,qL,zI,wfr0,wat,eq_true hat];refine ai rfl ⟨ko,uo,vs,(List.getElem?_append_left hko).trans g1,g2.frame fun k hk _=>⟨List.getElem?_append_left hk,trivial⟩,?_⟩;simp only[simprocAttr, -Int.reduceNatCast',R1,hl_1,h0_1,h1_1,h5_1,h6_1,hw]
  ·rw[if_neg hat]at ho
   obtain⟨x,gx,ho⟩:=bS ho;obtain⟨xa,xb⟩:=qf gx;have xc:=za gx;obtain⟨inv,ginv,ho⟩:=bS ho;have winv:ans A 135 [V.int .i64 p,V.int .i64 x]=some (V.int .i64 inv):=s135 p x ginv;obtain⟨own',gown',ho⟩:=bS ho;obtain⟨s,gs,ho⟩:=bS ho;have ox:qR none (List.drop at_.toNat (own.map enc))=some (V.int .i64 x):=qw (by rw[List.getElem?_map,xb]; rfl);simp only[simprocAttr, -Int.reduceNatCast',R1,b131_1,hl_1,h0_1,h1_1,h5_1,h6_1,eq_true hlt,hw,ra,rb,wfo,wown,wbr,qL,zI,wfr0,wat,eq_false hat,xa,eq_true xc,qH,ox,winv];show W A (.block 2 (.loop true b131_2)) _ _ _;rw[qh];refine qv gown' _ rfl (fun k q e h=> q.length=own.length∧h=⟨E++[(c,some (q.map enc))],c+1⟩∧e.length=102∧e.at 0=V.int .i64 p∧e.at 1=V.isl (rows.map enc)∧e.at 5=V.sl ko uo 0 out.length 1∧e.at 6=V.int .i64 i∧e.at 7=V.sl E.length c 0 own.length 1∧e.at 8=V.int .i64 at_∧e.at 9=V.int .i64 inv∧e.at 10=V.int .i64 k) ?_ ?_ ?_
   ·refine⟨rfl,rfl,?_⟩
    simp only[simprocAttr, -Int.reduceNatCast',R1,hl_1,h0_1,h1_1,h5_1,h6_1]
   ·clear hl_1 h0_1 h1_1 h5_1 h6_1
    rintro k q e h ⟨hq,rfl,hl_1,h0_1,h1_1,h5_1,h6_1,h7_1,h8_1,h9_1,h10_1⟩ hlt2 hw2 s2 ho2;unfold F131_2_B at ho2;obtain⟨x3,gx3,ho2⟩:=bS ho2;obtain⟨x3a,x3b⟩:=qf gx3;obtain⟨m3,gm3,ho2⟩:=bS ho2;have wm3:=qm gm3;obtain⟨z3,gz3,ho2⟩:=bS ho2;obtain⟨wz30,wz3⟩:=rem_w gz3;obtain⟨q2,gq2,ho2⟩:=bS ho2;obtain⟨s31,s32,s33,s34,s35⟩:=setI_w gq2;have hE:=wA ho2; subst hE;have o3:qR none (List.drop k.toNat (q.map enc))=some (V.int .i64 x3):=qw (by rw[List.getElem?_map,x3b]; rfl);have hk3:k < (own.length:Int):=hlt2;have s35':List.take k.toNat (q.map enc)++[V.int .i64 z3]++List.drop (k.toNat+1) (q.map enc)=List.map enc q2:=s35;simp only[simprocAttr, -Int.reduceNatCast',R1,b131_2,hl_1,h0_1,h1_1,h5_1,h6_1,h7_1,h8_1,h9_1,h10_1,hw2,eq_true hlt2,qH,set_last,x3a,o3,wm3,wz30,wz3,s33,s35'];refine ai rfl ⟨by omega,rfl,?_⟩;simp only[simprocAttr, -Int.reduceNatCast',R1,hl_1,h0_1,h1_1,h5_1,h6_1,h7_1,h8_1,h9_1,h10_1,hw2]
   ·clear hl_1 h0_1 h1_1 h5_1 h6_1
    rintro k q e h ⟨hq,rfl,hl_1,h0_1,h1_1,h5_1,h6_1,h7_1,h8_1,h9_1,h10_1⟩ hge2 t2 ho2;unfold F131_2_D at ho2;have hE:=wA ho2; subst hE;simp only[simprocAttr, -Int.reduceNatCast',R1,b131_2,hl_1,h0_1,h1_1,h5_1,h6_1,h7_1,h8_1,h9_1,h10_1,eq_false hge2,le1];intro ht; subst ht;show W A (.block 4 (.loop true b131_3)) _ _ _;rw[qh];refine qv gs _ rfl (fun k s e h=>∃un vn,h.ents[E.length+1]? =some (un,some vn)∧Rws h.ents (fun k=> k≠E.length+1) vn s.1∧h.ents[E.length]? =some (c,some (q.map enc))∧(∀k,k < E.length→h.ents[k]? =E[k]?)∧e.length=102∧e.at 0=V.int .i64 p∧e.at 1=V.isl (rows.map enc)∧e.at 5=V.sl ko uo 0 out.length 1∧e.at 6=V.int .i64 i∧e.at 7=V.sl E.length c 0 q.length 1∧e.at 8=V.int .i64 at_∧e.at 11=V.sl (E.length+1) un 0 s.1.length 1∧e.at 12=V.bool s.2∧e.at 13=V.int .i64 k) ?_ ?_ ?_
    ·refine⟨c+1,[],ge2b ..,.nil,ge2a ..,fun k hk=> by rw[wR]; exact List.getElem?_append_left hk,?_⟩
     simp only[simprocAttr, -Int.reduceNatCast',R1,hl_1,h0_1,h1_1,h5_1,h6_1,h7_1,h8_1,h9_1,h10_1,hq]
    ·clear hl_1 h0_1 h1_1 h5_1 h6_1 h7_1 h8_1 h9_1 h10_1
     rintro k ⟨nx,put⟩ e ⟨E3,c3⟩ ⟨un,vn,f1,f2,f3,f4,hl_1,h0_1,h1_1,h5_1,h6_1,h7_1,h8_1,h11_1,h12_1,h13_1⟩ hlt3 hw3 s3 ho3;unfold F131_3_B at ho3;simp only at f1 f2 f3 f4 h11_1 h12_1 ho3;obtain⟨cnd,gcnd,ho3⟩:=bS ho3;obtain⟨st,gst,ho3⟩:=bS ho3;obtain⟨o,go,ho3⟩:=bS ho3;obtain⟨oa,ob⟩:=qf go;have oc:=za go;obtain⟨y,gy,ho3⟩:=bS ho3;obtain⟨ya,yb⟩:=qf gy;have yc:=za gy;obtain⟨qq,gqq,ho3⟩:=bS ho3;have wqq:tans A 136 [1] [V.int .i64 p,V.isl (o.map enc),V.isl (q.map enc),V.int .i64 y]=some (V.isl (qq.map enc)):=t136 p o q y gqq;have wbq:=bare_one (α:=Int) qq;obtain⟨nn,gnn,ho3⟩:=bS ho3;have hE:=wA ho3; subst hE;have hN1:E.length+1 < E3.length:=(List.getElem?_eq_some_iff.1 f1).1;have k1:E3[ko]? =some (uo,some vs):=(f4 ko hko).trans g1;obtain⟨v,v1,v2⟩:=g2.get ob;have ov:=qw v1;have oy:qR none (List.drop at_.toNat (o.map enc))=some (V.int .i64 y):=qw (by rw[List.getElem?_map,yb]; rfl);have v3:RRep E3 (fun k=> k < E.length) v o:=v2.frame fun k hk _=>⟨f4 k hk,hk⟩
     -- in any memory that keeps the rows
     have step:∀ (E4:List (Nat×Option (List V))) (c4 un4:Nat) (vn4:List V),E4[E.length+1]? =some (un4,some vn4)→Rws E4 (fun k=> k≠E.length+1) vn4 st.1→E4[E.length]? =some (c,some (q.map enc))→(∀k,k < E.length→E4[k]? =E[k]?)→
       E4[ko]? =some (uo,some vs)∧frz ⟨E4,c4⟩ 16 v=some (V.isl (o.map enc))∧frz ⟨E4,c4⟩ 16 (V.sl E.length c 0 q.length 1)=some (V.isl (q.map enc))∧
       qO 1 24 (.sl (E.length+1) un4 0 st.1.length 1) 1 [V.sl E4.length c4 0 qq.length 1] ⟨E4++[(c4,some (qq.map enc))]++[(c4+1,some [V.sl E4.length c4 0 qq.length 1])],c4+1+1⟩=some (.sl (E.length+1) (c4+1+1) 0 (st.1.length+1) 1,⟨(E4++[(c4,some (qq.map enc))]++[(c4+1,some [V.sl E4.length c4 0 qq.length 1])]).set (E.length+1) (c4+1+1,some (vn4++[V.sl E4.length c4 0 qq.length 1])),c4+1+1+1⟩)∧
       RRep E4 (fun k=> k < E.length) v o∧
       (((E4++[(c4,some (qq.map enc))]++[(c4+1,some [V.sl E4.length c4 0 qq.length 1])]).set (E.length+1) (c4+1+1,some (vn4++[V.sl E4.length c4 0 qq.length 1])))[E.length+1]? =some (c4+1+1,some (vn4++[V.sl E4.length c4 0 qq.length 1]))∧
       Rws ((E4++[(c4,some (qq.map enc))]++[(c4+1,some [V.sl E4.length c4 0 qq.length 1])]).set (E.length+1) (c4+1+1,some (vn4++[V.sl E4.length c4 0 qq.length 1]))) (fun k=> k≠E.length+1) (vn4++[V.sl E4.length c4 0 qq.length 1]) nn∧
       ((E4++[(c4,some (qq.map enc))]++[(c4+1,some [V.sl E4.length c4 0 qq.length 1])]).set (E.length+1) (c4+1+1,some (vn4++[V.sl E4.length c4 0 qq.length 1])))[E.length]? =some (c,some (q.map enc))∧
       (∀k,k < E.length→((E4++[(c4,some (qq.map enc))]++[(c4+1,some [V.sl E4.length c4 0 qq.length 1])]).set (E.length+1) (c4+1+1,some (vn4++[V.sl E4.length c4 0 qq.length 1])))[k]? =E[k]?)∧nn.length=st.1.length+1):=by
      intro E4 c4 un4 vn4 a1 a2 a3 a4;have hN4:E.length+1 < E4.length:=(List.getElem?_eq_some_iff.1 a1).1;obtain⟨p1,p2,rfl⟩:=app_w gnn;have pre:∀x y (k:Nat),k < E4.length→(E4++[x]++[y])[k]? =E4[k]?:=fun x y k hk=> by rw[wR]; exact List.getElem?_append_left hk
      refine⟨(a4 ko hko).trans g1,(v2.frame (B':=fun _=> True) fun k hk _=>⟨a4 k hk,trivial⟩).fz c4 10,frz_row a3,jI (E:=E4++[(c4,some (qq.map enc))]++[(c4+1,some [V.sl E4.length c4 0 qq.length 1])]) ((pre _ _ _ hN4).trans a1) a2.len (by simpa using p1) (by simpa using p2),v2.frame fun k hk _=>⟨a4 k hk,hk⟩,qy (by simp; omega),?_,?_,fun k hk=>?_,by simp⟩
      ·exact(a2.frame fun k hk hne=>⟨(qI hne).trans (pre _ _ k hk),hne⟩).snoc ⟨_,_,rfl,(qI (by omega)).trans (ge2a ..),by omega⟩
      ·exact(qI (by omega)).trans ((pre _ _ _ (by omega)).trans a3)
      ·exact(qI (by omega)).trans ((pre _ _ k (by omega)).trans (a4 k hk))
     have hoc:k < (out.length:Int):=oc;cases put with
     |true=>
      unfold F131_3_C at gcnd;rw[if_pos rfl]at gcnd;cases gcnd;rw[if_neg wE]at gst;cases gst;obtain⟨b1,b2,b3,b4,b5,b6,b7,b8,b9,b10⟩:=step E3 c3 un vn f1 f2 f3 f4;simp only at b4 b10;obtain⟨kv,uv,rfl,w2,w3⟩:=b5;simp only[simprocAttr, -Int.reduceNatCast',R1,b131_3,hl_1,h0_1,h1_1,h5_1,h6_1,h7_1,h8_1,h11_1,h12_1,h13_1,hw3,eq_true hlt3,oa,k1,ov,ya,eq_true yc,oy,w2,b2,b3,wqq,wbq,qL,zI,le1,qH,ge2a,ge2b,b4];refine ai rfl ⟨_,_,b6,b7,b8,b9,?_⟩;simp only[simprocAttr, -Int.reduceNatCast',R1,hl_1,h0_1,h1_1,h5_1,h6_1,h7_1,h8_1,h11_1,h12_1,h13_1,hw3,b10]
     |false=>
      unfold F131_3_C at gcnd;rw[if_neg wE,go,Option.bind_some]at gcnd;obtain⟨ld,gld,gcnd⟩:=bS gcnd;have wld:ans A 81 [V.isl (o.map enc)]=some (V.int .i64 ld):=s81 o gld;have hE:=wA gcnd; subst hE;have wfv:=(v2.frame (E':=E3) (B':=fun _=> True) fun k hk _=>⟨f4 k hk,trivial⟩).fz c3 10;by_cases hld:at_ < ld
      ·rw[if_pos (by simpa using hld)]at gst
       obtain⟨n1,gn1,gst⟩:=bS gst;obtain⟨p1,p2,rfl⟩:=app_w gn1;have hE:=wA gst; subst hE;have wap:qO 1 24 (.sl (E.length+1) un 0 nx.length 1) 1 [V.sl E.length c 0 q.length 1] ⟨E3++[(c3,some [V.sl E.length c 0 q.length 1])],c3+1⟩=_:=jI (E:=E3++[(c3,some [V.sl E.length c 0 q.length 1])]) (by rw[List.getElem?_append_left hN1]; exact f1) f2.len (by simpa using p1) (by simpa using p2);have r1:Rws ((E3++[(c3,some [V.sl E.length c 0 q.length 1])]).set (E.length+1) (c3+1,some (vn++[V.sl E.length c 0 q.length 1]))) (fun k=> k≠E.length+1) (vn++[V.sl E.length c 0 q.length 1]) (nx++[q]):=
        (f2.frame fun k hk hne=>⟨(qI hne).trans (List.getElem?_append_left hk),hne⟩).snoc ⟨_,_,rfl,(qI (by omega)).trans ((List.getElem?_append_left (by omega)).trans f3),by omega⟩
       have hln:(nx++[q]).length=nx.length+1:=by simp
       obtain⟨b1,b2,b3,b4,b5,b6,b7,b8,b9,b10⟩:=step ((E3++[(c3,some [V.sl E.length c 0 q.length 1])]).set (E.length+1) (c3+1,some (vn++[V.sl E.length c 0 q.length 1]))) (c3+1+1) (c3+1) (vn++[V.sl E.length c 0 q.length 1]) (qy (by simp; omega)) r1 ((qI (by omega)).trans ((List.getElem?_append_left (by omega)).trans f3)) (fun k hk=>(qI (by omega)).trans ((List.getElem?_append_left (by omega)).trans (f4 k hk)));have hlb:((E3++[(c3,some [V.sl E.length c 0 q.length 1])]).set (E.length+1) (c3+1,some (vn++[V.sl E.length c 0 q.length 1]))).length=E3.length+1:=by simp
       have hge:=fun y z=> ge2b ((E3++[(c3,some [V.sl E.length c 0 q.length 1])]).set (E.length+1) (c3+1,some (vn++[V.sl E.length c 0 q.length 1]))) y z;simp only[hlb]at hge;simp only[hln,hlb]at b4 b6 b7 b8 b9 b10;obtain⟨kv,uv,rfl,w2,w3⟩:=b5;simp only[simprocAttr, -Int.reduceNatCast',R1,b131_3,hl_1,h0_1,h1_1,h5_1,h6_1,h7_1,h8_1,h11_1,h12_1,h13_1,hw3,eq_true hlt3,oa,k1,ov,wfv,wld,eq_true hld,ya,eq_true yc,oy,w2,b1,b2,b3,wap,wqq,wbq,qL,zI,le1,hlb,hge,qH,ge2a,ge2b,b4];refine ai rfl ⟨_,_,b6,b7,b8,b9,?_⟩;simp only[simprocAttr, -Int.reduceNatCast',R1,hl_1,h0_1,h1_1,h5_1,h6_1,h7_1,h8_1,h11_1,h12_1,h13_1,hw3,b10]
      ·rw[if_neg (by simpa using hld)]at gst
       have hE:=wA gst; subst hE;obtain⟨b1,b2,b3,b4,b5,b6,b7,b8,b9,b10⟩:=step E3 c3 un vn f1 f2 f3 f4;simp only at b4 b10;obtain⟨kv,uv,rfl,w2,w3⟩:=b5;simp only[simprocAttr, -Int.reduceNatCast',R1,b131_3,hl_1,h0_1,h1_1,h5_1,h6_1,h7_1,h8_1,h11_1,h12_1,h13_1,hw3,eq_true hlt3,oa,k1,ov,wfv,wld,eq_false hld,ya,eq_true yc,oy,w2,b2,b3,wqq,wbq,qL,zI,le1,qH,ge2a,ge2b,b4];refine ai rfl ⟨_,_,b6,b7,b8,b9,?_⟩;simp only[simprocAttr, -Int.reduceNatCast',R1,hl_1,h0_1,h1_1,h5_1,h6_1,h7_1,h8_1,h11_1,h12_1,h13_1,hw3,b10]
    ·clear hl_1 h0_1 h1_1 h5_1 h6_1 h7_1 h8_1 h9_1 h10_1
     rintro k ⟨nx,put⟩ e ⟨E3,c3⟩ ⟨un,vn,f1,f2,f3,f4,hl_1,h0_1,h1_1,h5_1,h6_1,h7_1,h8_1,h11_1,h12_1,h13_1⟩ hge3 t3 ho3;unfold F131_3_D at ho3;have hE:=wA ho3; subst hE;simp only at f1 f2 f3 f4 h11_1 h12_1;have hN1:E.length+1 < E3.length:=(List.getElem?_eq_some_iff.1 f1).1;cases put with
     |true=>
      simp only[simprocAttr, -Int.reduceNatCast',R1,b131_3,hl_1,h0_1,h1_1,h5_1,h6_1,h7_1,h8_1,h11_1,h12_1,h13_1,eq_false hge3,hw];intro ht; subst ht;simp only[if_true]at ho;have hE:=wA ho; subst hE;refine ai rfl ⟨E.length+1,un,vn,f1,f2.frame fun k hk _=>⟨rfl,trivial⟩,?_⟩;simp only[simprocAttr, -Int.reduceNatCast',R1,hl_1,h0_1,h1_1,h5_1,h6_1,h7_1,h8_1,h11_1,h12_1,h13_1]
     |false=>
      simp only[simprocAttr, -Int.reduceNatCast',R1,b131_3,hl_1,h0_1,h1_1,h5_1,h6_1,h7_1,h8_1,h11_1,h12_1,h13_1,eq_false hge3,hw,le1,qH];intro ht; subst ht;rw[if_neg wE]at ho;obtain⟨n1,gn1,ho⟩:=bS ho;obtain⟨p1,p2,rfl⟩:=app_w gn1;have hE:=wA ho; subst hE;have wap:qO 1 24 (.sl (E.length+1) un 0 nx.length 1) 1 [V.sl E.length c 0 q.length 1] ⟨E3++[(c3,some [V.sl E.length c 0 q.length 1])],c3+1⟩=_:=jI (E:=E3++[(c3,some [V.sl E.length c 0 q.length 1])]) (by rw[List.getElem?_append_left hN1]; exact f1) f2.len (by simpa using p1) (by simpa using p2);have r1:Rws ((E3++[(c3,some [V.sl E.length c 0 q.length 1])]).set (E.length+1) (c3+1,some (vn++[V.sl E.length c 0 q.length 1]))) (fun k=> k≠E.length+1) (vn++[V.sl E.length c 0 q.length 1]) (nx++[q]):=
       (f2.frame fun k hk hne=>⟨(qI hne).trans (List.getElem?_append_left hk),hne⟩).snoc ⟨_,_,rfl,(qI (by omega)).trans ((List.getElem?_append_left (by omega)).trans f3),by omega⟩
      simp only[simprocAttr, -Int.reduceNatCast',R1,b131_3,hl_1,h0_1,h1_1,h5_1,h6_1,h7_1,h8_1,h11_1,h12_1,h13_1,eq_false hge3,hw,le1,qH,wap];refine ai rfl ⟨E.length+1,c3+1,_,qy (by simp; omega),r1.frame fun k hk _=>⟨rfl,trivial⟩,?_⟩;simp only[simprocAttr, -Int.reduceNatCast',R1,hl_1,h0_1,h1_1,h5_1,h6_1,h7_1,h8_1,h11_1,h12_1,h13_1,wI]
 ·clear hl_0 h0_0 h1_0
  rintro i out e ⟨E,c⟩ ⟨ko,uo,vs,g1,g2,hl_1,h0_1,h1_1,h5_1,h6_1⟩ hge t1 ho;unfold F131_1_D at ho;have hE:=wA ho; subst hE;simp only at g1 g2;simp only[simprocAttr, -Int.reduceNatCast',R1,b131_1,hl_1,h0_1,h1_1,h5_1,h6_1,eq_false hge];intro ht; subst ht;refine ai (fun _=> trivial) ⟨_,?_,ko,uo,vs,rfl,g1,g2⟩;simp only[simprocAttr, -Int.reduceNatCast',R1,qb,p131,Rs.ev,hl_1,h5_1]
theorem s131(p:Int)(rows:List (List Int)){r:List (List Int)}(hF:F131 p rows=some r):ans A 131 [V.int .i64 p,V.isl (rows.map enc)]=some (enc r):=by
 obtain⟨_,h',h1,k,u,vs,rfl,h2,h3⟩:=d131 p rows hF;have:=h3.fz h'.clk h2;unfold ans;rw[h1];exact this
def F122_1_B(a0:Int)(a1:Int)(a2:List (List Int))(v9_1:Int)(s:(List (List Int))×Int):Option (((List (List Int))×Int)⊕((List (List Int))×Int)):=
 match s with
 |(o0_1,v8_1)=>
  (mkL 8 a1 0).bind fun l5=>
  (getI l5 v9_1).bind fun x7=>
  (setI l5 v9_1 1).bind fun l9=>
  (getI a2 v9_1).bind fun x11=>
  (F94 x11).bind fun x13=>
  (app 8 x13 l9).bind fun l16=>
  (app 24 o0_1 [l16]).bind fun l18=>
  some (.inl (l18,(x11.length:Int)))
def F122_1_D(a0:Int)(a1:Int)(a2:List (List Int))(v9_1:Int)(s:(List (List Int))×Int):Option ((List (List Int))×Int):=
 match s with
 |(o0_1,v8_1)=>
  some (o0_1,v8_1)
def jr(zv8_1:Int)(x20:List (List Int))(v13_2:Int)(o1_2:(List (List Int))):Option (((List (List Int)))⊕((List (List Int)))):=
 (getI x20 v13_2).bind fun x26=>
(F81 x26).bind fun x28=>
if zv8_1≤x28 then
 (slI x26 zv8_1 (x26.length:Int)).bind fun l31=>
 (F94 l31).bind fun x33=>
 (app 24 o1_2 [x33]).bind fun l36=>
 some (.inl l36)
else
 some (.inl o1_2)
def jL(zv8_1:Int)(x20:List (List Int))(v13_2:Int)(o1_2:(List (List Int))):Option ((List (List Int))):=
 some o1_2
def F122(a0:Int)(a1:Int)(a2:List (List Int)):Option (List (List Int)):=
 (forR 0 a1 (F122_1_B a0 a1 a2) (F122_1_D a0 a1 a2) ([],0)).bind fun t19=> match t19 with
  |(zo0_1,zv8_1)=>
   (F131 a0 zo0_1).bind fun x20=>
   (forR 0 (x20.length:Int) (jr zv8_1 x20) (jL zv8_1 x20) ([]:(List (List Int)))).bind fun zo1_2=>
   some zo1_2
def I122_1(a0:Int)(a1:Int)(a2:List (List Int))(v9_1:Int)(s:(List (List Int))×Int)(e:Env)(h:Heap):Prop:=
 match s with
 |(o0_1,v8_1)=>
  ∃u2 k3:Nat,h=⟨[(u2,some (o0_1.map enc))],k3⟩∧e.length=68∧e.at 0=V.int .i64 a0∧e.at 1=V.int .i64 a1∧e.at 2=V.isl (a2.map enc)∧e.at 7=V.sl 0 u2 0 o0_1.length 1∧e.at 8=V.int .i64 v8_1∧e.at 9=V.int .i64 v9_1
def P122_1(a0:Int)(a1:Int)(a2:List (List Int))(t:(List (List Int))×Int)(x:Ex)(e:Env)(h:Heap):Prop:=
 match t with
 |(zo0_1,zv8_1)=>
  x= .normal∧∃u2 k3:Nat,h=⟨[(u2,some (zo0_1.map enc))],k3⟩∧e.length=68∧e.at 0=V.int .i64 a0∧e.at 7=V.sl 0 u2 0 zo0_1.length 1∧e.at 8=V.int .i64 zv8_1
theorem l122_1(a0:Int)(a1:Int)(a2:List (List Int)){lo:Int}{s:(List (List Int))×Int}{t:(List (List Int))×Int}(hF:forR lo a1 (F122_1_B a0 a1 a2) (F122_1_D a0 a1 a2) s=some t){e:Env}{h:Heap}(hI:I122_1 a0 a1 a2 lo s e h):W A c122_1 e h (P122_1 a0 a1 a2 t):=by
 show W A (.block 0 (.loop false b122_1)) e h _;rw[qh];refine qv hF 1 (by rcases s with⟨_,_⟩; obtain⟨_,_,rfl,_⟩:=hI; rfl) (I122_1 a0 a1 a2) hI ?_ ?_
 ·rintro v9_1 ⟨o0_1,v8_1⟩ e h ⟨u2,k3,rfl,h_1⟩ hlt hw o ho
  unfold F122_1_B at ho;dsimp only at ho;obtain⟨l5,gl5,ho⟩:=bS ho;obtain⟨w6a,w6b,w6c,w6d,w6e⟩:=mkL_w gl5;replace w6e:(List.replicate (Int.toNat a1) [V.int .i64 0]).flatten=List.map enc l5:=w6e;obtain⟨x7,gx7,ho⟩:=bS ho;obtain⟨w8a,w8b⟩:=qf gx7;have w8c:=za gx7;replace w8c:v9_1 < (((Int.toNat a1):Nat):Int):=by first|exact w8c|(simp only[w6d]at w8c ⊢; exact w8c)
  have w8d:List.drop (Int.toNat v9_1) (l5.map enc)=(V.int .i64 x7)::List.drop ((Int.toNat v9_1)+1) (l5.map enc):=jG w8b;obtain⟨l9,gl9,ho⟩:=bS ho;obtain⟨w10a,w10b,w10c,w10d,w10e⟩:=setI_w gl9;replace w10e:List.take (Int.toNat v9_1) (l5.map enc)++[V.int .i64 1]++List.drop (Int.toNat v9_1+1) (l5.map enc)=List.map enc l9:=w10e;obtain⟨x11,gx11,ho⟩:=bS ho;obtain⟨w12a,w12b⟩:=qf gx11;obtain⟨x13,gx13,ho⟩:=bS ho;have w14:tans A 94 [1] [V.isl (x11.map enc)]=some (V.isl (x13.map enc)):=t94 x11 gx13;have w14t:=zI (α:=Int) x13;obtain⟨l16,gl16,ho⟩:=bS ho;have w15:=fun a b c d e=> qD (α:=Int) (n:=x13.length) (m:=(Int.toNat a1)) (ds:=List.map enc l9) gl16 (by first|rfl|simp only[w6d,w10d]) (by first|rfl|simp only[w6d,w10d]) rfl a b c d e;have w15l:=qZ gl16;obtain⟨l18,gl18,ho⟩:=bS ho;have w17:=fun a b c d e=> qD (α:=List Int) (n:=o0_1.length) (m:=1) (ds:=[V.isl (l16.map enc)]) gl18 (by first|rfl|simp only[w6d,w10d]) (by first|rfl|simp only[w6d,w10d]) rfl a b c d e;have w17l:=qZ gl18;cases ho;simp only[simprocAttr, -Int.reduceNatCast',R0,b122_1,h_1,eq_true hlt,hw,w6a,w6b,w6c,w6e,w8a,w8b,w8c,w8d,w10a,w10b,w10c,w10e,w12a,w12b,w14,w14t,xg (α:=Int) (l:=l9) (n:=(Int.toNat a1)) (by first|rfl|simp only[w6d,w10d]),eq_true (jW (l:=l9) (n:=(Int.toNat a1)) (by first|rfl|simp only[w6d,w10d])),w15,zd (α:=Int) l16,w17];refine ai rfl (ei _ (ei _ (ai rfl ?_)));simp only[simprocAttr, -Int.reduceNatCast',R0,h_1,eq_true hlt,hw,w6a,w6b,w6c,w6e,w8a,w8b,w8c,w8d,w10a,w10b,w10c,w10e,w12a,w12b,w14,w14t,xg (α:=Int) (l:=l9) (n:=(Int.toNat a1)) (by first|rfl|simp only[w6d,w10d]),eq_true (jW (l:=l9) (n:=(Int.toNat a1)) (by first|rfl|simp only[w6d,w10d])),w15,zd (α:=Int) l16,w17,w6d,w10d]
 ·rintro v9_1 ⟨o0_1,v8_1⟩ e h ⟨u2,k3,rfl,h_1⟩ hge t1 ho
  unfold F122_1_D at ho;dsimp only at ho;cases ho;simp only[simprocAttr, -Int.reduceNatCast',R0,b122_1,h_1,eq_false hge];intro ht;(first|subst ht|cases t);refine ai rfl (ei _ (ei _ (ai rfl ?_)));simp only[simprocAttr, -Int.reduceNatCast',R0,h_1,eq_false hge]
def I122_2(zv8_1:Int)(x20:List (List Int))(v13_2:Int)(o1_2:(List (List Int)))(e:Env)(h:Heap):Prop:=
 ∃u23 k24:Nat,h=⟨[(0,none),(u23,some (o1_2.map enc))],k24⟩∧e.length=68∧e.at 8=V.int .i64 zv8_1∧e.at 11=V.isl (x20.map enc)∧e.at 12=V.sl 1 u23 0 o1_2.length 1∧e.at 13=V.int .i64 v13_2
def P122_2(zv8_1:Int)(x20:List (List Int))(zo1_2:(List (List Int)))(x:Ex)(e:Env)(h:Heap):Prop:=
 x= .normal∧∃u23 k24:Nat,h=⟨[(0,none),(u23,some (zo1_2.map enc))],k24⟩∧e.length=68∧e.at 12=V.sl 1 u23 0 zo1_2.length 1
theorem l122_2(zv8_1:Int)(x20:List (List Int)){lo:Int}{s:(List (List Int))}{t:(List (List Int))}(hF:forR lo (x20.length:Int) (jr zv8_1 x20) (jL zv8_1 x20) s=some t){e:Env}{h:Heap}(hI:I122_2 zv8_1 x20 lo s e h):W A c122_2 e h (P122_2 zv8_1 x20 t):=by
 show W A (.block 2 (.loop false b122_2)) e h _;rw[qh];refine qv hF 2 (by obtain⟨_,_,rfl,_⟩:=hI; rfl) (I122_2 zv8_1 x20) hI ?_ ?_
 ·rintro v13_2 o1_2 e h ⟨u23,k24,rfl,h_22⟩ hlt hw o ho
  unfold jr at ho;obtain⟨x26,gx26,ho⟩:=bS ho;obtain⟨w27a,w27b⟩:=qf gx26;obtain⟨x28,gx28,ho⟩:=bS ho;have w29:=s81 x26 gx28;by_cases c30:zv8_1≤x28
  ·rw[if_pos c30]at ho
   obtain⟨l31,gl31,ho⟩:=bS ho;have w32:jD 1 (V.isl (x26.map enc)) (some (V.int .i64 zv8_1)) none=some (V.isl (l31.map enc)):=sliceV_w (α:=Int) One.one gl31 (.inr rfl) (.inl ⟨rfl,rfl⟩);obtain⟨x33,gx33,ho⟩:=bS ho;have w34:=s94 l31 gx33;obtain⟨l36,gl36,ho⟩:=bS ho;have w35:=fun a b c d e=> qD (α:=List Int) (n:=o1_2.length) (m:=1) (ds:=[V.isl (x33.map enc)]) gl36 (by first|rfl|simp) (by first|rfl|simp) rfl a b c d e;have w35l:=qZ gl36;cases ho;simp only[simprocAttr,R0,b122_2, *];refine ai rfl (ei _ (ei _ (ai rfl ?_)));simp only[simprocAttr,R0, *]
  ·rw[if_neg c30]at ho
   cases ho;simp only[simprocAttr,R0,b122_2, *];refine ai rfl (ei _ (ei _ (ai rfl ?_)));simp only[simprocAttr,R0, *]
 ·rintro v13_2 o1_2 e h ⟨u23,k24,rfl,h_22⟩ hge t1 ho
  unfold jL at ho;cases ho;simp only[simprocAttr,R0,b122_2, *];intro ht;(first|subst ht|cases t);refine ai rfl (ei _ (ei _ (ai rfl ?_)));simp only[simprocAttr,R0, *]
theorem s122(a0:Int)(a1:Int)(a2:List (List Int)){r:List (List Int)}(hF:F122 a0 a1 a2=some r):ans A 122 [V.int .i64 a0,V.int .i64 a1,V.isl (a2.map enc)]=some (enc r):=by
 refine qp (f:=p122) rfl rfl rfl fun e hl he=>?_;have h0_0:e.at 0=V.int .i64 a0:=he 0 _ rfl;have h1_0:e.at 1=V.int .i64 a1:=he 1 _ rfl;have h2_0:e.at 2=V.isl (a2.map enc):=he 2 _ rfl;have hl_0:e.length=68:=hl;clear he hl;show W A b122 e ⟨[],0⟩ _;unfold F122 at hF;obtain⟨⟨zo0_1,zv8_1⟩,gt19,hF⟩:=bS hF;dsimp only at hF;simp only[simprocAttr, -Int.reduceNatCast',R0,b122, *];refine W.mono (l122_1 a0 a1 a2 gt19 (ei _ (ei _ (ai rfl ?_)))) ?_
 ·simp only[simprocAttr, -Int.reduceNatCast',R0, *]
 rintro _ e _ ⟨rfl,u2,k3,rfl,hl_4,h0_4,h7_4,h8_4⟩;obtain⟨x20,gx20,hF⟩:=bS hF;have w21:=s131 a0 zo0_1 gx20;obtain⟨zo1_2,gt37,hF⟩:=bS hF;simp only[simprocAttr, -Int.reduceNatCast',R0,zd (α:=List Int) zo0_1, *];refine W.mono (l122_2 zv8_1 x20 gt37 (ei _ (ei _ (ai rfl ?_)))) ?_
 ·simp only[simprocAttr, -Int.reduceNatCast',R0,zd (α:=List Int) zo0_1, *]
 rintro _ e _ ⟨rfl,u23,k24,rfl,hl_25,h12_25⟩;have hE:=wA hF; subst hE;simp only[simprocAttr, -Int.reduceNatCast',R0, *];exact qd (by simp only[simprocAttr, -Int.reduceNatCast',R0,qb,p122,Rs.ev,qa,frzs (α:=List Int) zo1_2,zd (α:=List Int) zo1_2, *])
def F98(a0:GComplex)(a1:Int):Option (List (List Int)):=
 (F99 a0 a1).bind fun x1=>
 (F76 a0 a1).bind fun x3=>
 (F122 a0.Prime x1 x3).bind fun x5=>
 some x5
theorem s98(a0:GComplex)(a1:Int){r:List (List Int)}(hF:F98 a0 a1=some r):ans A 98 [(eC a0),V.int .i64 a1]=some (enc r):=by
 refine qp (f:=p98) rfl rfl rfl fun e hl he=>?_;have h0_0:e.at 0=(eC a0):=he 0 _ rfl;have h1_0:e.at 1=V.int .i64 a1:=he 1 _ rfl;have hl_0:e.length=14:=hl;clear he hl;show W A b98 e ⟨[],0⟩ _;unfold F98 at hF;obtain⟨x1,gx1,hF⟩:=bS hF;have w2:=s99 a0 a1 gx1;obtain⟨x3,gx3,hF⟩:=bS hF;have w4:=s76 a0 a1 gx3;obtain⟨x5,gx5,hF⟩:=bS hF;have w6:=s122 a0.Prime x1 x3 gx5;cases hF;simp only[simprocAttr,R0,b98, *];exact qd (by simp only[simprocAttr,R0,qb,p98,Rs.ev,qa, *])
def F292_1_B(a0:GFiltered)(a1:Int)(a2:Int)(x1:Int)(v9_1:Int)(o1_1:(List (List Int))):Option (((List (List Int)))⊕((List (List Int)))):=
 (getI a0.Levels a1).bind fun x7=>
(getI x7 v9_1).bind fun x9=>
if x9≤a2 then
 (mkL 8 x1 0).bind fun l12=>
 (getI l12 v9_1).bind fun x14=>
 (setI l12 v9_1 1).bind fun l16=>
 (app 24 o1_1 [l16]).bind fun l19=>
 some (.inl l19)
else
 some (.inl o1_1)
def F292_1_D(a0:GFiltered)(a1:Int)(a2:Int)(x1:Int)(v9_1:Int)(o1_1:(List (List Int))):Option ((List (List Int))):=
 some o1_1
def F292(a0:GFiltered)(a1:Int)(a2:Int):Option (List (List Int)):=
 (F99 a0.Complex a1).bind fun x1=>
 (forR 0 x1 (F292_1_B a0 a1 a2 x1) (F292_1_D a0 a1 a2 x1) ([]:(List (List Int)))).bind fun zo1_1=>
 some zo1_1
def I292_1(a0:GFiltered)(a1:Int)(a2:Int)(x1:Int)(v9_1:Int)(o1_1:(List (List Int)))(e:Env)(h:Heap):Prop:=
 ∃u4 k5:Nat,h=⟨[(0,none),(u4,some (o1_1.map enc))],k5⟩∧e.length=41∧e.at 1=V.int .i64 a1∧e.at 2=V.int .i64 a2∧e.at 3=V.iptr [V.int .i64 a0.Complex.Prime,V.isl (a0.Complex.Dims.map enc),V.isl (a0.Complex.Maps.map enc),V.isl (a0.Levels.map enc)]∧e.at 7=V.sl 1 u4 0 o1_1.length 1∧e.at 8=V.int .i64 x1∧e.at 9=V.int .i64 v9_1
def P292_1(a0:GFiltered)(a1:Int)(a2:Int)(x1:Int)(zo1_1:(List (List Int)))(x:Ex)(e:Env)(h:Heap):Prop:=
 x= .normal∧∃u4 k5:Nat,h=⟨[(0,none),(u4,some (zo1_1.map enc))],k5⟩∧e.length=41∧e.at 7=V.sl 1 u4 0 zo1_1.length 1
theorem l292_1(a0:GFiltered)(a1:Int)(a2:Int)(x1:Int){lo:Int}{s:(List (List Int))}{t:(List (List Int))}(hF:forR lo x1 (F292_1_B a0 a1 a2 x1) (F292_1_D a0 a1 a2 x1) s=some t){e:Env}{h:Heap}(hI:I292_1 a0 a1 a2 x1 lo s e h):W A c292_1 e h (P292_1 a0 a1 a2 x1 t):=by
 show W A (.block 0 (.loop false b292_1)) e h _;rw[qh];refine qv hF 2 (by obtain⟨_,_,rfl,_⟩:=hI; rfl) (I292_1 a0 a1 a2 x1) hI ?_ ?_
 ·rintro v9_1 o1_1 e h ⟨u4,k5,rfl,h_3⟩ hlt hw o ho
  unfold F292_1_B at ho;obtain⟨x7,gx7,ho⟩:=bS ho;obtain⟨w8a,w8b⟩:=qf gx7;obtain⟨x9,gx9,ho⟩:=bS ho;obtain⟨w10a,w10b⟩:=qf gx9;by_cases c11:x9≤a2
  ·rw[if_pos c11]at ho
   obtain⟨l12,gl12,ho⟩:=bS ho;obtain⟨w13a,w13b,w13c,w13d,w13e⟩:=mkL_w gl12;replace w13e:(List.replicate (Int.toNat x1) [V.int .i64 0]).flatten=List.map enc l12:=w13e;obtain⟨x14,gx14,ho⟩:=bS ho;obtain⟨w15a,w15b⟩:=qf gx14;have w15c:=za gx14;replace w15c:v9_1 < (((Int.toNat x1):Nat):Int):=by first|exact w15c|(simp only[w13d]at w15c ⊢; exact w15c)
   have w15d:List.drop (Int.toNat v9_1) (l12.map enc)=(V.int .i64 x14)::List.drop ((Int.toNat v9_1)+1) (l12.map enc):=jG w15b;obtain⟨l16,gl16,ho⟩:=bS ho;obtain⟨w17a,w17b,w17c,w17d,w17e⟩:=setI_w gl16;replace w17e:List.take (Int.toNat v9_1) (l12.map enc)++[V.int .i64 1]++List.drop (Int.toNat v9_1+1) (l12.map enc)=List.map enc l16:=w17e;obtain⟨l19,gl19,ho⟩:=bS ho;have w18:=fun a b c d e=> qD (α:=List Int) (n:=o1_1.length) (m:=1) (ds:=[V.isl (l16.map enc)]) gl19 (by first|rfl|simp only[w13d,w17d]) (by first|rfl|simp only[w13d,w17d]) rfl a b c d e;have w18l:=qZ gl19;cases ho;simp only[simprocAttr, -Int.reduceNatCast',R0,b292_1,h_3,eq_true hlt,hw,w8a,w8b,w10a,w10b,eq_true c11,w13a,w13b,w13c,w13e,w15a,w15b,w15c,w15d,w17a,w17b,w17c,w17e,zd (α:=Int) l16,xg (α:=Int) (l:=l16) (n:=(Int.toNat x1)) (by first|rfl|simp only[w13d,w17d]),jW (α:=Int) (l:=l16) (n:=(Int.toNat x1)) (by first|rfl|simp only[w13d,w17d]),w18];refine ai rfl (ei _ (ei _ (ai rfl ?_)));simp only[simprocAttr, -Int.reduceNatCast',R0,h_3,eq_true hlt,hw,w8a,w8b,w10a,w10b,eq_true c11,w13a,w13b,w13c,w13e,w15a,w15b,w15c,w15d,w17a,w17b,w17c,w17e,zd (α:=Int) l16,xg (α:=Int) (l:=l16) (n:=(Int.toNat x1)) (by first|rfl|simp only[w13d,w17d]),jW (α:=Int) (l:=l16) (n:=(Int.toNat x1)) (by first|rfl|simp only[w13d,w17d]),w18,w13d,w17d]
  ·rw[if_neg c11]at ho
   cases ho;simp only[simprocAttr, -Int.reduceNatCast',R0,b292_1,h_3,eq_true hlt,hw,w8a,w8b,w10a,w10b,eq_false c11];refine ai rfl (ei _ (ei _ (ai rfl ?_)));simp only[simprocAttr, -Int.reduceNatCast',R0,h_3,eq_true hlt,hw,w8a,w8b,w10a,w10b,eq_false c11]
 ·rintro v9_1 o1_1 e h ⟨u4,k5,rfl,h_3⟩ hge t1 ho
  unfold F292_1_D at ho;cases ho;simp only[simprocAttr, -Int.reduceNatCast',R0,b292_1,h_3,eq_false hge];intro ht;(first|subst ht|cases t);refine ai rfl (ei _ (ei _ (ai rfl ?_)));simp only[simprocAttr, -Int.reduceNatCast',R0,h_3,eq_false hge]
theorem s292(a0:GFiltered)(a1:Int)(a2:Int){r:List (List Int)}(hF:F292 a0 a1 a2=some r):ans A 292 [(eF a0),V.int .i64 a1,V.int .i64 a2]=some (enc r):=by
 refine qp (f:=p292) rfl rfl rfl fun e hl he=>?_;have h0_0:e.at 0=(eF a0):=he 0 _ rfl;have h1_0:e.at 1=V.int .i64 a1:=he 1 _ rfl;have h2_0:e.at 2=V.int .i64 a2:=he 2 _ rfl;have hl_0:e.length=41:=hl;clear he hl;show W A b292 e ⟨[],0⟩ _;unfold F292 at hF;obtain⟨x1,gx1,hF⟩:=bS hF;have w2:=s99 a0.Complex a1 gx1;obtain⟨zo1_1,gt20,hF⟩:=bS hF;simp only[simprocAttr, -Int.reduceNatCast',R0,b292, *];refine W.mono (l292_1 a0 a1 a2 x1 gt20 (ei _ (ei _ (ai rfl ?_)))) ?_
 ·simp only[simprocAttr, -Int.reduceNatCast',R0, *]
 rintro _ e _ ⟨rfl,u4,k5,rfl,hl_6,h7_6⟩;have hE:=wA hF; subst hE;simp only[simprocAttr, -Int.reduceNatCast',R0, *];exact qd (by simp only[simprocAttr, -Int.reduceNatCast',R0,qb,p292,Rs.ev,qa,frzs (α:=List Int) zo1_1,zd (α:=List Int) zo1_1, *])
def F293_1_B(a0:Int)(a1:Int)(x1:List (List Int))(x9:List (List Int))(v13_1:Int)(o1_1:(List (List Int))):Option (((List (List Int)))⊕((List (List Int)))):=
 (getI x9 v13_1).bind fun x15=>
(slI x15 0 (x1.length:Int)).bind fun l17=>
(F80 a0 x1 l17 a1).bind fun x19=>
(app 24 o1_1 [x19]).bind fun l22=>
some (.inl l22)
def F293_1_D(a0:Int)(a1:Int)(x1:List (List Int))(x9:List (List Int))(v13_1:Int)(o1_1:(List (List Int))):Option ((List (List Int))):=
 some o1_1
def F293(a0:Int)(a1:Int)(a2:List (List Int))(a3:List (List Int)):Option (List (List Int)):=
 (F131 a0 a2).bind fun x1=>
 (app 24 ([]:List (List Int)) x1).bind fun l4=>
 (F131 a0 a3).bind fun x5=>
 (app 24 l4 x5).bind fun l8=>
 (F122 a0 ((l8.length:Nat):Int) l8).bind fun x9=>
 (forR 0 (x9.length:Int) (F293_1_B a0 a1 x1 x9) (F293_1_D a0 a1 x1 x9) ([]:(List (List Int)))).bind fun zo1_1=>
 (F131 a0 zo1_1).bind fun x24=>
 some x24
def I293_1(a0:Int)(a1:Int)(x1:List (List Int))(x9:List (List Int))(v13_1:Int)(o1_1:(List (List Int)))(e:Env)(h:Heap):Prop:=
 ∃u12 k13:Nat,h=⟨[(0,none),(u12,some (o1_1.map enc))],k13⟩∧e.length=56∧e.at 0=V.int .i64 a0∧e.at 1=V.int .i64 a1∧e.at 9=V.isl (x1.map enc)∧e.at 11=V.isl (x9.map enc)∧e.at 12=V.sl 1 u12 0 o1_1.length 1∧e.at 13=V.int .i64 v13_1
def P293_1(a0:Int)(a1:Int)(x1:List (List Int))(x9:List (List Int))(zo1_1:(List (List Int)))(x:Ex)(e:Env)(h:Heap):Prop:=
 x= .normal∧∃u12 k13:Nat,h=⟨[(0,none),(u12,some (zo1_1.map enc))],k13⟩∧e.length=56∧e.at 0=V.int .i64 a0∧e.at 12=V.sl 1 u12 0 zo1_1.length 1
theorem l293_1(a0:Int)(a1:Int)(x1:List (List Int))(x9:List (List Int)){lo:Int}{s:(List (List Int))}{t:(List (List Int))}(hF:forR lo (x9.length:Int) (F293_1_B a0 a1 x1 x9) (F293_1_D a0 a1 x1 x9) s=some t){e:Env}{h:Heap}(hI:I293_1 a0 a1 x1 x9 lo s e h):W A c293_1 e h (P293_1 a0 a1 x1 x9 t):=by
 show W A (.block 0 (.loop false b293_1)) e h _;rw[qh];refine qv hF 2 (by obtain⟨_,_,rfl,_⟩:=hI; rfl) (I293_1 a0 a1 x1 x9) hI ?_ ?_
 ·rintro v13_1 o1_1 e h ⟨u12,k13,rfl,h_11⟩ hlt hw o ho
  unfold F293_1_B at ho;obtain⟨x15,gx15,ho⟩:=bS ho;obtain⟨w16a,w16b⟩:=qf gx15;obtain⟨l17,gl17,ho⟩:=bS ho;have w18:jD 1 (V.isl (x15.map enc)) none (some (V.int .i64 (x1.length:Int)))=some (V.isl (l17.map enc)):=sliceV_w (α:=Int) One.one gl17 (.inl ⟨rfl,rfl⟩) (.inr rfl);obtain⟨x19,gx19,ho⟩:=bS ho;have w20:=s80 a0 x1 l17 a1 gx19;obtain⟨l22,gl22,ho⟩:=bS ho;have w21:=fun a b c d e=> qD (α:=List Int) (n:=o1_1.length) (m:=1) (ds:=[V.isl (x19.map enc)]) gl22 (by first|rfl|simp) (by first|rfl|simp) rfl a b c d e;have w21l:=qZ gl22;cases ho;simp only[simprocAttr,R0,b293_1, *];refine ai rfl (ei _ (ei _ (ai rfl ?_)));simp only[simprocAttr,R0, *]
 ·rintro v13_1 o1_1 e h ⟨u12,k13,rfl,h_11⟩ hge t1 ho
  unfold F293_1_D at ho;cases ho;simp only[simprocAttr,R0,b293_1, *];intro ht;(first|subst ht|cases t);refine ai rfl (ei _ (ei _ (ai rfl ?_)));simp only[simprocAttr,R0, *]
theorem s293(a0:Int)(a1:Int)(a2:List (List Int))(a3:List (List Int)){r:List (List Int)}(hF:F293 a0 a1 a2 a3=some r):ans A 293 [V.int .i64 a0,V.int .i64 a1,V.isl (a2.map enc),V.isl (a3.map enc)]=some (enc r):=by
 refine qp (f:=p293) rfl rfl rfl fun e hl he=>?_;have h0_0:e.at 0=V.int .i64 a0:=he 0 _ rfl;have h1_0:e.at 1=V.int .i64 a1:=he 1 _ rfl;have h2_0:e.at 2=V.isl (a2.map enc):=he 2 _ rfl;have h3_0:e.at 3=V.isl (a3.map enc):=he 3 _ rfl;have hl_0:e.length=56:=hl;clear he hl;show W A b293 e ⟨[],0⟩ _;unfold F293 at hF;obtain⟨x1,gx1,hF⟩:=bS hF;have w2:ans A 131 [V.int .i64 a0,V.isl (a2.map enc)]=some (V.isl (x1.map enc)):=s131 a0 a2 gx1;obtain⟨l4,gl4,hF⟩:=bS hF;have w3:=fun a b c d e=> qD (α:=List Int) (n:=0) (m:=x1.length) (ds:=List.map enc x1) gl4 (by first|rfl|simp) (by first|rfl|simp) rfl a b c d e;have w3l:=qZ gl4;obtain⟨x5,gx5,hF⟩:=bS hF;have w6:ans A 131 [V.int .i64 a0,V.isl (a3.map enc)]=some (V.isl (x5.map enc)):=s131 a0 a3 gx5;obtain⟨l8,gl8,hF⟩:=bS hF;have w7:=fun a b c d e=> qD (α:=List Int) (n:=l4.length) (m:=x5.length) (ds:=List.map enc x5) gl8 (by first|rfl|simp) (by first|rfl|simp) rfl a b c d e;have w7l:=qZ gl8;obtain⟨x9,gx9,hF⟩:=bS hF;have w10:ans A 122 [V.int .i64 a0,V.int .i64 ((l8.length:Nat):Int),V.isl (l8.map enc)]=some (V.isl (x9.map enc)):=s122 a0 ((l8.length:Nat):Int) l8 gx9;obtain⟨zo1_1,gt23,hF⟩:=bS hF;simp only[simprocAttr,R0,b293,hl_0,h0_0,h1_0,h2_0,h3_0,w2,w3,w6,w7,zd (α:=List Int) l8,w10];refine W.mono (l293_1 a0 a1 x1 x9 gt23 (ei _ (ei _ (ai rfl ?_)))) ?_
 ·simp only[simprocAttr,R0,hl_0,h0_0,h1_0,h2_0,h3_0,w2,w3,w6,w7,zd (α:=List Int) l8,w10]
 rintro _ e _ ⟨rfl,u12,k13,rfl,h_14⟩;obtain⟨x24,gx24,hF⟩:=bS hF;have w25:ans A 131 [V.int .i64 a0,V.isl (zo1_1.map enc)]=some (V.isl (x24.map enc)):=s131 a0 zo1_1 gx24;cases hF;simp only[simprocAttr,R0,h_14,zd (α:=List Int) zo1_1,w25];exact qd (by simp only[simprocAttr,R0,qb,p293,Rs.ev,qa,h_14,zd (α:=List Int) zo1_1,w25])
def jK(a0:GFiltered)(a1:Int)(a2:Int)(x2:List (List Int))(s:(List (List Int))×Int):Option (((List (List Int))×Int)⊕((List (List Int)))):=
 match s with
 |(o1_1,v9_1)=>
  (chk (a1+1)).bind fun x8=>
  (F99 a0.Complex x8).bind fun x9=>
  if v9_1 < x9 then
   (getI a0.Levels x8).bind fun x12=>
   (getI x12 v9_1).bind fun x14=>
   if x14≤a2 then
    (getI x2 v9_1).bind fun x17=>
    (app 24 o1_1 [x17]).bind fun l20=>
    (chk (v9_1+1)).bind fun x21=>
    some (.inl (l20,x21))
   else
    (chk (v9_1+1)).bind fun x22=>
    some (.inl (o1_1,x22))
  else
   some (.inr o1_1)
def F294(a0:GFiltered)(a1:Int)(a2:Int):Option (List (List Int)):=
 (chk (a1+1)).bind fun x1=>
 (F76 a0.Complex x1).bind fun x2=>
 (qB (jK a0 a1 a2 x2) ([],0)).bind fun zo1_1=>
 (F131 a0.Complex.Prime zo1_1).bind fun x24=>
 some x24
def I294_1(a0:GFiltered)(a1:Int)(a2:Int)(x2:List (List Int))(s:(List (List Int))×Int)(e:Env)(h:Heap):Prop:=
 match s with
 |(o1_1,v9_1)=>
  ∃u5 k6:Nat,h=⟨[(0,none),(u5,some (o1_1.map enc))],k6⟩∧e.length=48∧e.at 1=V.int .i64 a1∧e.at 2=V.int .i64 a2∧e.at 3=V.iptr [V.int .i64 a0.Complex.Prime,V.isl (a0.Complex.Dims.map enc),V.isl (a0.Complex.Maps.map enc),V.isl (a0.Levels.map enc)]∧e.at 7=V.sl 1 u5 0 o1_1.length 1∧e.at 8=V.isl (x2.map enc)∧e.at 9=V.int .i64 v9_1
def P294_1(a0:GFiltered)(a1:Int)(a2:Int)(x2:List (List Int))(zo1_1:(List (List Int)))(x:Ex)(e:Env)(h:Heap):Prop:=
 x= .normal∧∃u5 k6:Nat,h=⟨[(0,none),(u5,some (zo1_1.map enc))],k6⟩∧e.length=48∧e.at 3=V.iptr [V.int .i64 a0.Complex.Prime,V.isl (a0.Complex.Dims.map enc),V.isl (a0.Complex.Maps.map enc),V.isl (a0.Levels.map enc)]∧e.at 7=V.sl 1 u5 0 zo1_1.length 1
theorem l294_1(a0:GFiltered)(a1:Int)(a2:Int)(x2:List (List Int)){s:(List (List Int))×Int}{t:(List (List Int))}(hF:qB (jK a0 a1 a2 x2) s=some t){e:Env}{h:Heap}(hI:I294_1 a0 a1 a2 x2 s e h):W A c294_1 e h (P294_1 a0 a1 a2 x2 t):=by
 show W A (.block 0 (.loop false b294_1)) e h _;rw[qh];refine zy hF 2 (by rcases s with⟨_,_⟩; obtain⟨_,_,rfl,_⟩:=hI; rfl) (I294_1 a0 a1 a2 x2) hI ?_
 ·rintro⟨o1_1,v9_1⟩ e h ⟨u5,k6,rfl,h_4⟩ o ho
  unfold jK at ho;dsimp only at ho;obtain⟨x8,gx8,ho⟩:=bS ho;have wx8:=qm gx8;obtain⟨x9,gx9,ho⟩:=bS ho;have w10:=s99 a0.Complex x8 gx9;by_cases c11:v9_1 < x9
  ·rw[if_pos c11]at ho
   obtain⟨x12,gx12,ho⟩:=bS ho;obtain⟨w13a,w13b⟩:=qf gx12;obtain⟨x14,gx14,ho⟩:=bS ho;obtain⟨w15a,w15b⟩:=qf gx14;by_cases c16:x14≤a2
   ·rw[if_pos c16]at ho
    obtain⟨x17,gx17,ho⟩:=bS ho;obtain⟨w18a,w18b⟩:=qf gx17;obtain⟨l20,gl20,ho⟩:=bS ho;have w19:=fun a b c d e=> qD (α:=List Int) (n:=o1_1.length) (m:=1) (ds:=[V.isl (x17.map enc)]) gl20 (by first|rfl|simp) (by first|rfl|simp) rfl a b c d e;have w19l:=qZ gl20;obtain⟨x21,gx21,ho⟩:=bS ho;have wx21:=qm gx21;cases ho;simp only[simprocAttr,R0,b294_1, *];refine ai rfl (ei _ (ei _ (ai rfl ?_)));simp only[simprocAttr,R0, *]
   ·rw[if_neg c16]at ho
    obtain⟨x22,gx22,ho⟩:=bS ho;have wx22:=qm gx22;cases ho;simp only[simprocAttr,R0,b294_1, *];refine ai rfl (ei _ (ei _ (ai rfl ?_)));simp only[simprocAttr,R0, *]
  ·rw[if_neg c11]at ho
   cases ho;simp only[simprocAttr,R0,b294_1, *];intro ht;(first|subst ht|cases t);simp only[simprocAttr,RR,RB];refine ai rfl (ei _ (ei _ (ai rfl ?_)));simp only[simprocAttr,R0, *]
theorem s294(a0:GFiltered)(a1:Int)(a2:Int){r:List (List Int)}(hF:F294 a0 a1 a2=some r):ans A 294 [(eF a0),V.int .i64 a1,V.int .i64 a2]=some (enc r):=by
 refine qp (f:=p294) rfl rfl rfl fun e hl he=>?_;have h0_0:e.at 0=(eF a0):=he 0 _ rfl;have h1_0:e.at 1=V.int .i64 a1:=he 1 _ rfl;have h2_0:e.at 2=V.int .i64 a2:=he 2 _ rfl;have hl_0:e.length=48:=hl;clear he hl;show W A b294 e ⟨[],0⟩ _;unfold F294 at hF;obtain⟨x1,gx1,hF⟩:=bS hF;have wx1:=qm gx1;obtain⟨x2,gx2,hF⟩:=bS hF;have w3:=s76 a0.Complex x1 gx2;obtain⟨zo1_1,gt23,hF⟩:=bS hF;simp only[simprocAttr,R0,b294, *];refine W.mono (l294_1 a0 a1 a2 x2 gt23 (ei _ (ei _ (ai rfl ?_)))) ?_
 ·simp only[simprocAttr,R0, *]
 rintro _ e _ ⟨rfl,u5,k6,rfl,h_7⟩;obtain⟨x24,gx24,hF⟩:=bS hF;have w25:=s131 a0.Complex.Prime zo1_1 gx24;cases hF;simp only[simprocAttr,R0,zd (α:=List Int) zo1_1, *];exact qd (by simp only[simprocAttr,R0,qb,p294,Rs.ev,qa,zd (α:=List Int) zo1_1, *])
def F295(a0:Int)(a1:List (List Int))(a2:List (List Int)):Option (List (List Int)):=
 (app 24 ([]:List (List Int)) a1).bind fun l2=>
 (app 24 l2 a2).bind fun l4=>
 (F131 a0 l4).bind fun x5=>
 some x5
theorem s295(a0:Int)(a1:List (List Int))(a2:List (List Int)){r:List (List Int)}(hF:F295 a0 a1 a2=some r):ans A 295 [V.int .i64 a0,V.isl (a1.map enc),V.isl (a2.map enc)]=some (enc r):=by
 refine qp (f:=p295) rfl rfl rfl fun e hl he=>?_;have h0_0:e.at 0=V.int .i64 a0:=he 0 _ rfl;have h1_0:e.at 1=V.isl (a1.map enc):=he 1 _ rfl;have h2_0:e.at 2=V.isl (a2.map enc):=he 2 _ rfl;have hl_0:e.length=14:=hl;clear he hl;show W A b295 e ⟨[],0⟩ _;unfold F295 at hF;obtain⟨l2,gl2,hF⟩:=bS hF;have w1:=fun a b c d e=> qD (α:=List Int) (n:=0) (m:=a1.length) (ds:=List.map enc a1) gl2 (by first|rfl|simp) (by first|rfl|simp) rfl a b c d e;have w1l:=qZ gl2;obtain⟨l4,gl4,hF⟩:=bS hF;have w3:=fun a b c d e=> qD (α:=List Int) (n:=l2.length) (m:=a2.length) (ds:=List.map enc a2) gl4 (by first|rfl|simp) (by first|rfl|simp) rfl a b c d e;have w3l:=qZ gl4;obtain⟨x5,gx5,hF⟩:=bS hF;have w6:ans A 131 [V.int .i64 a0,V.isl (l4.map enc)]=some (V.isl (x5.map enc)):=s131 a0 l4 gx5;cases hF;simp only[simprocAttr,R0,b295,hl_0,h0_0,h1_0,h2_0,w1,w3,zd (α:=List Int) l4,w6];exact qd (by simp only[simprocAttr,R0,qb,p295,Rs.ev,qa,hl_0,h0_0,h1_0,h2_0,w1,w3,zd (α:=List Int) l4,w6])
def F258(a0:GFiltered)(a1:Int)(a2:Int)(a3:Int):Option Int:=
 if a2 < 0 then
  some 0
 else
  (F99 a0.Complex a1).bind fun x2=>
  (F98 a0.Complex a1).bind fun x4=>
  (F292 a0 a1 a2).bind fun x6=>
  (F293 a0.Complex.Prime x2 x4 x6).bind fun x8=>
  (F294 a0 a1 a3).bind fun x10=>
  (F295 a0.Complex.Prime x8 x10).bind fun x12=>
  (chk ((x12.length:Int) - (x10.length:Int))).bind fun x14=>
  some x14
theorem s258(a0:GFiltered)(a1:Int)(a2:Int)(a3:Int){r:Int}(hF:F258 a0 a1 a2 a3=some r):ans A 258 [(eF a0),V.int .i64 a1,V.int .i64 a2,V.int .i64 a3]=some (enc r):=by
 refine qp (f:=p258) rfl rfl rfl fun e hl he=>?_;have h0_0:e.at 0=(eF a0):=he 0 _ rfl;have h1_0:e.at 1=V.int .i64 a1:=he 1 _ rfl;have h2_0:e.at 2=V.int .i64 a2:=he 2 _ rfl;have h3_0:e.at 3=V.int .i64 a3:=he 3 _ rfl;have hl_0:e.length=43:=hl;clear he hl;have h_0:=ai hl_0 (ai h0_0 (ai h1_0 (ai h2_0 h3_0)));show W A b258 e ⟨[],0⟩ _;unfold F258 at hF;by_cases c1:a2 < 0
 ·rw[if_pos c1]at hF
  cases hF;simp only[simprocAttr,R0,b258, *];exact qd (by simp only[simprocAttr,R0,qb,p258,Rs.ev,qa, *])
 ·rw[if_neg c1]at hF
  obtain⟨x2,gx2,hF⟩:=bS hF;have w3:=s99 a0.Complex a1 gx2;obtain⟨x4,gx4,hF⟩:=bS hF;have w5:=s98 a0.Complex a1 gx4;obtain⟨x6,gx6,hF⟩:=bS hF;have w7:=s292 a0 a1 a2 gx6;obtain⟨x8,gx8,hF⟩:=bS hF;have w9:=s293 a0.Complex.Prime x2 x4 x6 gx8;obtain⟨x10,gx10,hF⟩:=bS hF;have w11:=s294 a0 a1 a3 gx10;obtain⟨x12,gx12,hF⟩:=bS hF;have w13:=s295 a0.Complex.Prime x8 x10 gx12;obtain⟨x14,gx14,hF⟩:=bS hF;have wx14:=qm gx14;cases hF;simp only[simprocAttr,R0,b258, *];exact qd (by simp only[simprocAttr,R0,qb,p258,Rs.ev,qa, *])
def F376(a0:GFiltered)(a1:Int)(a2:Int)(a3:Int):Option Int:=
 (chk (a3 - 1)).bind fun x1=>
 (F258 a0 a1 a2 x1).bind fun x2=>
 (F258 a0 a1 a2 a3).bind fun x4=>
 (chk (x2 - x4)).bind fun x6=>
 (chk (a2 - 1)).bind fun x7=>
 (F258 a0 a1 x7 x1).bind fun x8=>
 (chk (x6 - x8)).bind fun x10=>
 (F258 a0 a1 x7 a3).bind fun x11=>
 (chk (x10+x11)).bind fun x13=>
 some x13
theorem s376(a0:GFiltered)(a1:Int)(a2:Int)(a3:Int){r:Int}(hF:F376 a0 a1 a2 a3=some r):ans A 376 [(eF a0),V.int .i64 a1,V.int .i64 a2,V.int .i64 a3]=some (enc r):=by
 refine qp (f:=p376) rfl rfl rfl fun e hl he=>?_;have h0_0:e.at 0=(eF a0):=he 0 _ rfl;have h1_0:e.at 1=V.int .i64 a1:=he 1 _ rfl;have h2_0:e.at 2=V.int .i64 a2:=he 2 _ rfl;have h3_0:e.at 3=V.int .i64 a3:=he 3 _ rfl;have hl_0:e.length=36:=hl;clear he hl;show W A b376 e ⟨[],0⟩ _;unfold F376 at hF;obtain⟨x1,gx1,hF⟩:=bS hF;have wx1:=qm gx1;obtain⟨x2,gx2,hF⟩:=bS hF;have w3:=s258 a0 a1 a2 x1 gx2;obtain⟨x4,gx4,hF⟩:=bS hF;have w5:=s258 a0 a1 a2 a3 gx4;obtain⟨x6,gx6,hF⟩:=bS hF;have wx6:=qm gx6;obtain⟨x7,gx7,hF⟩:=bS hF;have wx7:=qm gx7;obtain⟨x8,gx8,hF⟩:=bS hF;have w9:=s258 a0 a1 x7 x1 gx8;obtain⟨x10,gx10,hF⟩:=bS hF;have wx10:=qm gx10;obtain⟨x11,gx11,hF⟩:=bS hF;have w12:=s258 a0 a1 x7 a3 gx11;obtain⟨x13,gx13,hF⟩:=bS hF;have wx13:=qm gx13;cases hF;simp only[simprocAttr,R0,b376, *];exact qd (by simp only[simprocAttr,R0,qb,p376,Rs.ev,qa, *])
def F377_S(b:GBar)(s:List GBar×Int):Option ((List GBar×Int)⊕List GBar):=
 if s.2 > 0 then(app 24 s.1 [b]).bind fun l=>(chk (s.2 - 1)).bind fun c=> some (.inl (l,c))else some (.inr s.1)
noncomputable def F377(o:List GBar)(b:GBar)(n:Int):Option (List GBar):=qB (F377_S b) (o,n)
theorem d377(o:List GBar)(b:GBar)(n:Int){r:List GBar}(hF:F377 o b n=some r)(E0:List (Nat×Option (List V)))(c0:Nat){q qu:Nat}(hq:E0[q]? =some (qu,some (fl o))):∃v h',res A 377 [V.sl q qu 0 o.length 3,V.agg [V.int .i64 b.Degree,V.int .i64 b.Birth,V.int .i64 b.Death],V.int .i64 n] ⟨E0,c0⟩=some (v,h')∧∃qu',v=V.sl q qu' 0 r.length 3∧h'.ents[q]? =some (qu',some (fl r))∧E0.length≤h'.ents.length∧∀j,j < E0.length→j≠q→h'.ents[j]? =E0[j]?:=by
 have hql:q < E0.length:=(List.getElem?_eq_some_iff.1 hq).1;refine res_dp (f:=p377) rfl rfl rfl fun e hl he=>?_;have h0_0:e.at 0=V.sl q qu 0 o.length 3:=he 0 _ rfl;have h1_0:e.at 1=V.agg [V.int .i64 b.Degree,V.int .i64 b.Birth,V.int .i64 b.Death]:=he 1 _ rfl;have h2_0:e.at 2=V.int .i64 n:=he 2 _ rfl;have hl_0:e.length=16:=hl;clear he hl;show W A b377 e ⟨E0,c0⟩ _;unfold F377 at hF;simp only[simprocAttr, -Int.reduceNatCast',R0,b377,hl_0,h0_0,h1_0,h2_0,qH,set_last];show W A (.block 0 (.loop true b377_1)) _ _ _;rw[qh];refine zy hF _ rfl (fun s e h=>∃qu',h.ents[q]? =some (qu',some (fl s.1))∧E0.length≤h.ents.length∧(∀j,j < E0.length→j≠q→h.ents[j]? =E0[j]?)∧e.length=16∧e.at 0=V.sl q qu' 0 s.1.length 3∧e.at 2=V.int .i64 s.2∧e.at 4=V.iptr [V.int .i64 b.Degree,V.int .i64 b.Birth,V.int .i64 b.Death]) ?_ ?_
 ·refine⟨qu,(List.getElem?_append_left hql).trans hq,by simp,fun j h1 _=> List.getElem?_append_left h1,?_⟩
  simp only[simprocAttr, -Int.reduceNatCast',R0,hl_0,h0_0,h1_0,h2_0]
 ·clear hl_0 h0_0 h1_0 h2_0
  rintro⟨s,i⟩ e ⟨E,c⟩ ⟨qu',g2,g3,g4,hl_1,h0_1,h2_1,h4_1⟩ o' ho;simp only at g2 g3 g4 h0_1 h2_1;unfold F377_S at ho;simp only at ho;by_cases c1:i > 0
  ·rw[if_pos c1]at ho
   obtain⟨l,gl,ho⟩:=bS ho;obtain⟨i',gi,ho⟩:=bS ho;have wi:=qm gi;have hE:=wA ho; subst hE;have w1:∀x c',qO 3 24 (.sl q qu' 0 s.length 3) 1 [V.int .i64 b.Degree,V.int .i64 b.Birth,V.int .i64 b.Death] ⟨E++[x],c'⟩=_:=fun x c'=> fl_append (α:=GBar) (a:=b) (l2:=l) (by rw[List.getElem?_append_left (by omega)]; exact g2) gl;simp only[simprocAttr, -Int.reduceNatCast',R0,b377_1,hl_1,h0_1,h2_1,h4_1,eq_true c1,wi,w1,qH];refine ai rfl ⟨c+1,?_,?_,fun j h1 h2=>?_,?_⟩
   ·exact qy (by simp; omega)
   ·simp; omega
   ·exact(xh (by omega) (by omega)).trans (g4 j h1 h2)
   ·simp only[simprocAttr, -Int.reduceNatCast',R0,hl_1,h0_1,h2_1,h4_1,wi]
  ·rw[if_neg c1]at ho
   have hE:=wA ho; subst hE;simp only[simprocAttr, -Int.reduceNatCast',R0,b377_1,hl_1,h0_1,h2_1,h4_1,eq_false c1];intro ht; subst ht;simp only[simprocAttr, -Int.reduceNatCast',R0,hl_1,h0_1,h2_1,h4_1];exact⟨fun _=> trivial,_,by simp only[simprocAttr, -Int.reduceNatCast',R0,qb,p377,Rs.ev,hl_1,h0_1],qu',rfl,g2,g3,g4⟩
def F371_3_B(a0:GFiltered)(n b:Int)(a:Int)(short:Int):Option (Int⊕Int):=(F376 a0 n a b).bind fun x=>(chk (short - x)).bind fun s=> some (.inl s)
def F371_3_D(a:Int)(short:Int):Option Int:=some short
def F371_4_S(a0:GFiltered)(n b:Int)(s:List GBar×Int):Option ((List GBar×Int)⊕List GBar):=
 if s.2≤5 then(F376 a0 n b s.2).bind fun x=>(F377 s.1 ⟨n,b,s.2⟩ x).bind fun l=>(chk (s.2+1)).bind fun d=> some (.inl (l,d))else some (.inr s.1)
def F371_2_S(a0:GFiltered)(n:Int)(s:List GBar×Int):Option ((List GBar×Int)⊕List GBar):=
 if s.2≤5 then(F294 a0 n s.2).bind fun x1=>(chk (s.2 - 1)).bind fun b1=>(F294 a0 n b1).bind fun x2=>(chk ((x1.length:Int) - (x2.length:Int))).bind fun sh=>
  (forR 0 s.2 (F371_3_B a0 n s.2) F371_3_D sh).bind fun sh2=>(F377 s.1 ⟨n,s.2,s.2⟩ sh2).bind fun l1=>(chk (s.2+1)).bind fun d0=>(qB (F371_4_S a0 n s.2) (l1,d0)).bind fun l2=>
  (F258 a0 n s.2 5).bind fun y1=>(F258 a0 n b1 5).bind fun y2=>(chk (y1 - y2)).bind fun last=>(F377 l2 ⟨n,s.2,(-1)⟩ last).bind fun l3=> some (.inl (l3,d0))
 else some (.inr s.1)
def F371_1_B(a0:GFiltered)(n:Int)(o:List GBar):Option (List GBar⊕List GBar):=(qB (F371_2_S a0 n) (o,0)).bind fun l=> some (.inl l)
def F371_1_D(n:Int)(o:List GBar):Option (List GBar):=some o
def F371(a0:GFiltered):Option (List GBar):=forR 0 (a0.Complex.Dims.length:Int) (F371_1_B a0) F371_1_D []
theorem d371(a0:GFiltered){r:List GBar}(hF:F371 a0=some r):∃v h',res A 371 [(eF a0)] Heap.empty=some (v,h')∧∃K,Deep.rep h' v r K:=by
 refine res_dp (f:=p371) rfl rfl rfl fun e hl he=>?_;have h0_0:e.at 0=(eF a0):=he 0 _ rfl;have hl_0:e.length=88:=hl;clear he hl;show W A b371 e ⟨[],0⟩ _;unfold F371 at hF;simp only[simprocAttr, -Int.reduceNatCast',R0,b371, *];show W A (.block 0 (.loop true b371_1)) _ _ _;rw[qh];refine qv hF _ rfl (fun n s e h=>∃qu,h.ents[1]? =some (qu,some (fl s))∧e.length=88∧e.at 3=V.sl 1 qu 0 s.length 3∧e.at 1=V.iptr [V.int .i64 a0.Complex.Prime,V.isl (a0.Complex.Dims.map enc),V.isl (a0.Complex.Maps.map enc),V.isl (a0.Levels.map enc)]∧e.at 4=V.int .i64 n) ?_ ?_ ?_
 ·refine⟨1,rfl,?_⟩
  simp only[simprocAttr, -Int.reduceNatCast',R0,vH, *]
 ·clear hl_0 h0_0
  rintro n s e ⟨E,c⟩ ⟨qu,g1,hl_1,h3_1,h1_1,h4_1⟩ hlt hw oo ho;simp only at g1;unfold F371_1_B at ho;obtain⟨l,gt,ho⟩:=bS ho;have hE:=wA ho; subst hE;simp only[simprocAttr, -Int.reduceNatCast',R0,b371_1, *];refine W.mono (Q:=fun x' e h=> x'= .normal∧∃qu,h.ents[1]? =some (qu,some (fl l))∧e.length=88∧e.at 3=V.sl 1 qu 0 l.length 3∧e.at 1=V.iptr [V.int .i64 a0.Complex.Prime,V.isl (a0.Complex.Dims.map enc),V.isl (a0.Complex.Maps.map enc),V.isl (a0.Levels.map enc)]∧e.at 4=V.int .i64 n) ?_ ?_
  rotate_left
  ·rintro _ e ⟨E2,c2⟩ ⟨rfl,qu2,q1,hl_2,h3_2,h1_2,h4_2⟩
   simp only[simprocAttr, -Int.reduceNatCast',R0, *];refine ai rfl ⟨qu2,q1,?_⟩;simp only[simprocAttr, -Int.reduceNatCast',R0, *]
  show W A (.block 2 (.loop true b371_2)) _ _ _;rw[qh];refine zy gt _ rfl (fun s e h=>∃qu,h.ents[1]? =some (qu,some (fl s.1))∧e.length=88∧e.at 3=V.sl 1 qu 0 s.1.length 3∧e.at 1=V.iptr [V.int .i64 a0.Complex.Prime,V.isl (a0.Complex.Dims.map enc),V.isl (a0.Complex.Maps.map enc),V.isl (a0.Levels.map enc)]∧e.at 4=V.int .i64 n∧e.at 5=V.int .i64 s.2) ?_ ?_
  ·refine⟨qu,g1,?_⟩
   simp only[simprocAttr, -Int.reduceNatCast',R0, *]
  ·clear g1 hl_1 h3_1 h1_1 h4_1 gt
   rintro⟨s,b⟩ e ⟨E,c⟩ ⟨qu,g1,hl_1,h3_1,h1_1,h4_1,h5_1⟩ oo ho;simp only at g1 h3_1 h5_1;unfold F371_2_S at ho;simp only at ho;by_cases c1:b≤5
   ·rw[if_pos c1]at ho
    obtain⟨x1,gx1,ho⟩:=bS ho;have w1:=s294 a0 n b gx1;obtain⟨b1,gb1,ho⟩:=bS ho;have wb1:=qm gb1;obtain⟨x2,gx2,ho⟩:=bS ho;have w2:=s294 a0 n b1 gx2;obtain⟨sh,gsh,ho⟩:=bS ho;have wsh:=qm gsh;obtain⟨sh2,gl3,ho⟩:=bS ho;obtain⟨l1,gl1,ho⟩:=bS ho;obtain⟨d0,gd0,ho⟩:=bS ho;have wd0:=qm gd0;obtain⟨l2,gl4,ho⟩:=bS ho;obtain⟨y1,gy1,ho⟩:=bS ho;have w5:=s258 a0 n b 5 gy1;obtain⟨y2,gy2,ho⟩:=bS ho;have w6:=s258 a0 n b1 5 gy2;obtain⟨last,gla,ho⟩:=bS ho;have wla:=qm gla;obtain⟨l3,gl5,ho⟩:=bS ho;have hE:=wA ho; subst hE;simp only[simprocAttr, -Int.reduceNatCast',R0,b371_2, *];refine W.mono (Q:=fun x' e h=> x'= .normal∧h=⟨E,c⟩∧e.length=88∧e.at 3=V.sl 1 qu 0 s.length 3∧e.at 1=V.iptr [V.int .i64 a0.Complex.Prime,V.isl (a0.Complex.Dims.map enc),V.isl (a0.Complex.Maps.map enc),V.isl (a0.Levels.map enc)]∧e.at 4=V.int .i64 n∧e.at 5=V.int .i64 b∧e.at 6=V.int .i64 sh2) ?_ ?_
    rotate_left
    ·rintro _ e h ⟨rfl,rfl,hl_2,h3_2,h1_2,h4_2,h5_2,h6_2⟩
     obtain⟨v2,⟨E2,c2⟩,r1,qu2,rfl,q2,q3,q4⟩:=d377 s ⟨n,b,b⟩ sh2 gl1 E c g1;simp only at q2 q3 q4 r1;simp only[simprocAttr, -Int.reduceNatCast',R0,qx,r1, *];refine W.mono (Q:=fun x' e h=> x'= .normal∧∃qu,h.ents[1]? =some (qu,some (fl l2))∧e.length=88∧e.at 3=V.sl 1 qu 0 l2.length 3∧e.at 1=V.iptr [V.int .i64 a0.Complex.Prime,V.isl (a0.Complex.Dims.map enc),V.isl (a0.Complex.Maps.map enc),V.isl (a0.Levels.map enc)]∧e.at 4=V.int .i64 n∧e.at 5=V.int .i64 b) ?_ ?_
     rotate_left
     ·rintro _ e ⟨E3,c3⟩ ⟨rfl,qu3,k1,hl_3,h3_3,h1_3,h4_3,h5_3⟩
      simp only at k1;obtain⟨v4,⟨E4,c4⟩,r3,qu4,rfl,q5,q6,q7⟩:=d377 l2 ⟨n,b,(-1)⟩ last gl5 E3 c3 k1;simp only at q5 q6 q7 r3;simp only[simprocAttr, -Int.reduceNatCast',R0,qx,r3, *];refine ai rfl ⟨qu4,q5,?_⟩;simp only[simprocAttr, -Int.reduceNatCast',R0, *]
     show W A (.block 6 (.loop true b371_4)) _ _ _;rw[qh];refine zy gl4 _ rfl (fun s e h=>∃qu,h.ents[1]? =some (qu,some (fl s.1))∧e.length=88∧e.at 3=V.sl 1 qu 0 s.1.length 3∧e.at 1=V.iptr [V.int .i64 a0.Complex.Prime,V.isl (a0.Complex.Dims.map enc),V.isl (a0.Complex.Maps.map enc),V.isl (a0.Levels.map enc)]∧e.at 4=V.int .i64 n∧e.at 5=V.int .i64 b∧e.at 8=V.int .i64 s.2) ?_ ?_
     ·refine⟨qu2,q2,?_⟩
      simp only[simprocAttr, -Int.reduceNatCast',R0, *]
     ·clear r1 q2 q3 q4 hl_2 h3_2 h1_2 h4_2 h5_2 h6_2 g1 hl_1 h3_1 h1_1 h4_1 h5_1
      rintro⟨s,d⟩ e ⟨E,c⟩ ⟨qu,g1,hl_1,h3_1,h1_1,h4_1,h5_1,h8_1⟩ oo ho;simp only at g1 h3_1 h8_1;unfold F371_4_S at ho;simp only at ho;by_cases c2:d≤5
      ·rw[if_pos c2]at ho
       obtain⟨z,gz,ho⟩:=bS ho;have wz:ans A 376 [(eF a0),V.int .i64 n,V.int .i64 b,V.int .i64 d]=some (V.int .i64 z):=s376 a0 n b d gz;obtain⟨l,gl,ho⟩:=bS ho;obtain⟨d',gd,ho⟩:=bS ho;have wd:=qm gd;have hE:=wA ho; subst hE;obtain⟨v2,⟨E2,c2'⟩,r1,qu2,rfl,q2,q3,q4⟩:=d377 s ⟨n,b,d⟩ z gl E c g1;simp only at q2 q3 q4 r1;simp only[simprocAttr, -Int.reduceNatCast',R0,b371_4,qx,r1, *];refine ai rfl ⟨qu2,q2,?_⟩;simp only[simprocAttr, -Int.reduceNatCast',R0, *]
      ·rw[if_neg c2]at ho
       have hE:=wA ho; subst hE;simp only[simprocAttr, -Int.reduceNatCast',R0,b371_4, *];intro ht; subst ht;refine ai rfl ⟨qu,g1,?_⟩;simp only[simprocAttr, -Int.reduceNatCast',R0, *]
    show W A (.block 4 (.loop true b371_3)) _ _ _;rw[qh];refine qv gl3 _ rfl (fun a sh e h=> h=⟨E,c⟩∧e.length=88∧e.at 3=V.sl 1 qu 0 s.length 3∧e.at 1=V.iptr [V.int .i64 a0.Complex.Prime,V.isl (a0.Complex.Dims.map enc),V.isl (a0.Complex.Maps.map enc),V.isl (a0.Levels.map enc)]∧e.at 4=V.int .i64 n∧e.at 5=V.int .i64 b∧e.at 6=V.int .i64 sh∧e.at 7=V.int .i64 a) ?_ ?_ ?_
    ·refine⟨rfl,?_⟩
     simp only[simprocAttr, -Int.reduceNatCast',R0, *]
    ·clear hl_1 h3_1 h1_1 h4_1 h5_1
     rintro a sh e h ⟨rfl,hl_1,h3_1,h1_1,h4_1,h5_1,h6_1,h7_1⟩ hlt2 hw2 oo ho;unfold F371_3_B at ho;obtain⟨z,gz,ho⟩:=bS ho;have wz:ans A 376 [(eF a0),V.int .i64 n,V.int .i64 a,V.int .i64 b]=some (V.int .i64 z):=s376 a0 n a b gz;obtain⟨s',gs,ho⟩:=bS ho;have ws:=qm gs;have hE:=wA ho; subst hE;simp only[simprocAttr, -Int.reduceNatCast',R0,b371_3, *];refine ai rfl ⟨rfl,?_⟩;simp only[simprocAttr, -Int.reduceNatCast',R0, *]
    ·clear hl_1 h3_1 h1_1 h4_1 h5_1
     rintro a sh e h ⟨rfl,hl_1,h3_1,h1_1,h4_1,h5_1,h6_1,h7_1⟩ hge t1 ho;unfold F371_3_D at ho;have hE:=wA ho; subst hE;simp only[simprocAttr, -Int.reduceNatCast',R0,b371_3, *];intro ht; subst ht;simp only[simprocAttr, -Int.reduceNatCast',R0, *]
   ·rw[if_neg c1]at ho
    have hE:=wA ho; subst hE;simp only[simprocAttr, -Int.reduceNatCast',R0,b371_2, *];intro ht; subst ht;refine ai rfl ⟨qu,g1,?_⟩;simp only[simprocAttr, -Int.reduceNatCast',R0, *]
 ·clear hl_0 h0_0
  rintro n s e ⟨E,c⟩ ⟨qu,g1,hl_1,h3_1,h1_1,h4_1⟩ hge t1 ho;unfold F371_1_D at ho;have hE:=wA ho; subst hE;simp only at g1;simp only[simprocAttr, -Int.reduceNatCast',R0,b371_1, *];intro ht; subst ht;exact⟨fun _=> trivial,_,by simp only[simprocAttr, -Int.reduceNatCast',R0,qb,p371,Rs.ev, *],_,tri_row g1 fun k=> yH⟩
theorem s371(a0:GFiltered){r:List GBar}(hF:F371 a0=some r):ans A 371 [(eF a0)]=some (enc r):=ans_of_deep (α:=List GBar) (by decide) (d371 a0 hF)
def F366(a0:GFiltered):Option (T2 (List GBar) Int):=
 (F38 a0).bind fun x1=>
 if x1=true then
  (F371 a0).bind fun x3=>
  if 24 < (x3.length:Int)then
   some ⟨([]:List GBar),3⟩
  else
   some ⟨x3,0⟩
 else
  some ⟨([]:List GBar),1⟩
theorem s366(a0:GFiltered){r:T2 (List GBar) Int}(hF:F366 a0=some r):ans A 366 [(eF a0)]=some (EncR.enc r):=by
 refine qp (f:=p366) rfl rfl rfl fun e hl he=>?_;have h0_0:e.at 0=(eF a0):=he 0 _ rfl;have hl_0:e.length=14:=hl;clear he hl;have h_0:=ai hl_0 h0_0;show W A b366 e ⟨[],0⟩ _;unfold F366 at hF;obtain⟨x1,gx1,hF⟩:=bS hF;have w2:=s38 a0 gx1;cases x1 with
 |true=>
  rw[if_pos rfl]at hF;obtain⟨x3,gx3,hF⟩:=bS hF;have w4:=s371 a0 gx3;by_cases c5:24 < (x3.length:Int)
  ·rw[if_pos c5]at hF
   cases hF;simp only[simprocAttr,R0,b366, *];exact qd (by simp only[simprocAttr,R0,qb,p366,Rs.ev,qa, *])
  ·rw[if_neg c5]at hF
   cases hF;simp only[simprocAttr,R0,b366, *];exact qd (by simp only[simprocAttr,R0,qb,p366,Rs.ev,qa, *])
 |false=>
  rw[if_neg wE]at hF;cases hF;simp only[simprocAttr,R0,b366, *];exact qd (by simp only[simprocAttr,R0,qb,p366,Rs.ev,qa, *])
def F56(a0:Int)(a1:Int)(a2:Int):Option Bool:=
 if a1≤a0 then
  some (decide (a0≤a2))
 else
  some false
theorem s56(a0:Int)(a1:Int)(a2:Int){r:Bool}(hF:F56 a0 a1 a2=some r):ans A 56 [V.int .i64 a0,V.int .i64 a1,V.int .i64 a2]=some (enc r):=by
 refine qp (f:=p56) rfl rfl rfl fun e hl he=>?_;have h0_0:e.at 0=V.int .i64 a0:=he 0 _ rfl;have h1_0:e.at 1=V.int .i64 a1:=he 1 _ rfl;have h2_0:e.at 2=V.int .i64 a2:=he 2 _ rfl;have hl_0:e.length=15:=hl;clear he hl;have h_0:=ai hl_0 (ai h0_0 (ai h1_0 h2_0));show W A b56 e ⟨[],0⟩ _;unfold F56 at hF;by_cases c1:a1≤a0
 ·rw[if_pos c1]at hF
  cases hF;simp only[simprocAttr,R0,b56, *];exact qd (by simp only[simprocAttr,R0,qb,p56,Rs.ev,qa, *])
 ·rw[if_neg c1]at hF
  cases hF;simp only[simprocAttr,R0,b56, *];exact qd (by simp only[simprocAttr,R0,qb,p56,Rs.ev,qa, *])
def F67(a0:Int):Option Bool:=
 if a0=2 then
  some true
 else
  if a0=3 then
   some true
  else
   if a0=5 then
    some true
   else
    some (decide (a0=7))
theorem s67(a0:Int){r:Bool}(hF:F67 a0=some r):ans A 67 [V.int .i64 a0]=some (enc r):=by
 refine qp (f:=p67) rfl rfl rfl fun e hl he=>?_;have h0_0:e.at 0=V.int .i64 a0:=he 0 _ rfl;have hl_0:e.length=17:=hl;clear he hl;have h_0:=ai hl_0 h0_0;show W A b67 e ⟨[],0⟩ _;unfold F67 at hF;by_cases c1:a0=2
 ·rw[if_pos c1]at hF
  cases hF;simp only[simprocAttr,R0,b67, *];exact qd (by simp only[simprocAttr,R0,qb,p67,Rs.ev,qa, *])
 ·rw[if_neg c1]at hF
  by_cases c2:a0=3
  ·rw[if_pos c2]at hF
   cases hF;simp only[simprocAttr,R0,b67, *];exact qd (by simp only[simprocAttr,R0,qb,p67,Rs.ev,qa, *])
  ·rw[if_neg c2]at hF
   by_cases c3:a0=5
   ·rw[if_pos c3]at hF
    cases hF;simp only[simprocAttr,R0,b67, *];exact qd (by simp only[simprocAttr,R0,qb,p67,Rs.ev,qa, *])
   ·rw[if_neg c3]at hF
    cases hF;simp only[simprocAttr,R0,b67, *];exact qd (by simp only[simprocAttr,R0,qb,p67,Rs.ev,qa, *])
def F115_1_B(a0:List Int)(f1:Int→Option Bool)(v8_1:Int)(s:Unit):Option ((Unit)⊕((Unit)⊕Int)):=
 (getI a0 v8_1).bind fun x4=>
(f1 x4).bind fun x6=>
if x6=true then
 some (.inr (.inr v8_1))
else
 some (.inl ())
def F115_1_D(a0:List Int)(f1:Int→Option Bool)(v8_1:Int)(s:Unit):Option ((Unit)⊕Int):=
 some (.inl ())
def F115(a0:List Int)(f1:Int→Option Bool):Option Int:=
 (forR 0 (a0.length:Int) (F115_1_B a0 f1) (F115_1_D a0 f1) ()).bind fun t8=> match t8 with
  | .inl _=>
   some (-1)
  | .inr r9=> some r9
def I115_1(a0:List Int)(f1:Int→Option Bool)(vf1:V)(v8_1:Int)(s:Unit)(e:Env)(h:Heap):Prop:=
 ∃k2:Nat,h=⟨[],k2⟩∧e.length=19∧e.at 0=V.isl (a0.map enc)∧e.at 1=vf1∧e.at 7=V.int .i64 (a0.length:Int)∧e.at 8=V.int .i64 v8_1
def P115_1(a0:List Int)(f1:Int→Option Bool)(vf1:V)(t:(Unit)⊕Int)(x:Ex)(e:Env)(h:Heap):Prop:=
 match t with
 | .inl _=> x= .normal∧∃k2:Nat,h=⟨[],k2⟩∧e.length=19
 | .inr r=> x= .ret∧Fin p115 (enc r) .ret e h
theorem l115_1(a0:List Int)(f1:Int→Option Bool)(vf1:V)(hf1:Clo1 A vf1 f1){lo:Int}{s:Unit}{t:(Unit)⊕Int}(hF:forR lo (a0.length:Int) (F115_1_B a0 f1) (F115_1_D a0 f1) s=some t){e:Env}{h:Heap}(hI:I115_1 a0 f1 vf1 lo s e h):W A c115_1 e h (P115_1 a0 f1 vf1 t):=by
 obtain⟨g_f1,fs_f1,cs_f1,hv_f1,hc_f1⟩:=id hf1;show W A (.block 0 (.loop false b115_1)) e h _;rw[qh];refine qv hF 0 (by obtain⟨_,rfl,_⟩:=hI; rfl) (I115_1 a0 f1 vf1) hI ?_ ?_
 ·rintro v8_1 _ e h ⟨k2,rfl,h_1⟩ hlt hw o ho
  unfold F115_1_B at ho;obtain⟨x4,gx4,ho⟩:=bS ho;obtain⟨w5a,w5b⟩:=qf gx4;obtain⟨x6,gx6,ho⟩:=bS ho;have w7a:∀h,mapO (frz h 16) (fs_f1++[V.int .i64 x4]++cs_f1)=some (fs_f1++[V.int .i64 x4]++cs_f1):=fun h=> hc_f1.zf x4 h;have w7b:List.all (fs_f1++[V.int .i64 x4]++cs_f1) (ql 16)=true:=hc_f1.zr x4;have w7c:ans A g_f1 (fs_f1++[V.int .i64 x4]++cs_f1)=some (V.bool x6):=hc_f1.ka x4 _ gx6;cases x6 with
  |true=>
   rw[if_pos rfl]at ho;cases ho;simp only[simprocAttr,R0,b115_1, *];intro ht;(first|subst ht|cases t);simp only[simprocAttr,RR,RB];exact ai rfl (qd (by simp only[simprocAttr,R0,qb,p115,Rs.ev,qa, *]))
  |false=>
   rw[if_neg wE]at ho;cases ho;simp only[simprocAttr,R0,b115_1, *];refine ai rfl (ei _ (ai rfl ?_));simp only[simprocAttr,R0, *]
 ·rintro v8_1 _ e h ⟨k2,rfl,h_1⟩ hge t1 ho
  unfold F115_1_D at ho;cases ho;simp only[simprocAttr,R0,b115_1, *];intro ht;(first|subst ht|cases t);refine ai rfl (ei _ (ai rfl ?_));simp only[simprocAttr,R0, *]
theorem s115(a0:List Int)(f1:Int→Option Bool){vf1:V}(hf1:Clo1 A vf1 f1){r:Int}(hF:F115 a0 f1=some r):ans A 115 [V.isl (a0.map enc),vf1]=some (enc r):=by
 refine qp (f:=p115) rfl rfl rfl fun e hl he=>?_;have h0_0:e.at 0=V.isl (a0.map enc):=he 0 _ rfl;have h1_0:e.at 1=vf1:=he 1 _ rfl;obtain⟨g_f1,fs_f1,cs_f1,hv_f1,hc_f1⟩:=id hf1;have hl_0:e.length=19:=hl;clear he hl;have h_0:=ai hl_0 (ai h0_0 h1_0);show W A b115 e ⟨[],0⟩ _;unfold F115 at hF;obtain⟨t8,gt8,hF⟩:=bS hF;rcases t8 with _|r9
 ·dsimp only at hF
  simp only[simprocAttr,R0,b115, *];refine W.mono (l115_1 a0 f1 vf1 hf1 gt8 (ei _ (ai rfl ?_))) ?_
  ·simp only[simprocAttr,R0, *]
  rintro _ e _ ⟨rfl,k2,rfl,hl_3⟩;cases hF;simp only[simprocAttr,R0, *];exact qd (by simp only[simprocAttr,R0,qb,p115,Rs.ev,qa, *])
 ·dsimp only at hF
  cases hF;simp only[simprocAttr,R0,b115, *];refine W.mono (l115_1 a0 f1 vf1 hf1 gt8 (ei _ (ai rfl ?_))) ?_
  ·simp only[simprocAttr,R0, *]
  rintro _ e h ⟨rfl,hq⟩;simp only[simprocAttr,RR,RB];exact hq
def F82(a0:List Int)(f1:Int→Option Bool):Option Bool:=
 (F115 a0 f1).bind fun x1=>
 some (decide (0≤x1))
theorem s82(a0:List Int)(f1:Int→Option Bool){vf1:V}(hf1:Clo1 A vf1 f1){r:Bool}(hF:F82 a0 f1=some r):ans A 82 [V.isl (a0.map enc),vf1]=some (enc r):=by
 refine qp (f:=p82) rfl rfl rfl fun e hl he=>?_;have h0_0:e.at 0=V.isl (a0.map enc):=he 0 _ rfl;have h1_0:e.at 1=vf1:=he 1 _ rfl;obtain⟨g_f1,fs_f1,cs_f1,hv_f1,hc_f1⟩:=id hf1;have hl_0:e.length=9:=hl;clear he hl;show W A b82 e ⟨[],0⟩ _;unfold F82 at hF;obtain⟨x1,gx1,hF⟩:=bS hF;have w2:ans A 115 [V.isl (a0.map enc),vf1]=some (V.int .i64 x1):=s115 a0 f1 hf1 gx1;cases hF;simp only[simprocAttr,R0,b82,hl_0,h0_0,h1_0,hf1.fz,hf1.rl,w2];exact qd (by simp only[simprocAttr,R0,qb,p82,Rs.ev,qa,hl_0,h0_0,h1_0,hf1.fz,hf1.rl,w2])
def F73(a0:List Int):Option Int:=
 some (a0.length:Int)
theorem s73(a0:List Int){r:Int}(hF:F73 a0=some r):ans A 73 [V.isl (a0.map enc)]=some (enc r):=by
 refine qp (f:=p73) rfl rfl rfl fun e hl he=>?_;have h0_0:e.at 0=V.isl (a0.map enc):=he 0 _ rfl;have hl_0:e.length=5:=hl;clear he hl;show W A b73 e ⟨[],0⟩ _;unfold F73 at hF;cases hF;simp only[simprocAttr,R0,b73, *];exact qd (by simp only[simprocAttr,R0,qb,p73,Rs.ev,qa, *])
def F86(a0:GComplex):Option Int:=
 (chk ((a0.Dims.length:Int) - 1)).bind fun x3=>
 some x3
theorem s86(a0:GComplex){r:Int}(hF:F86 a0=some r):ans A 86 [(eC a0)]=some (enc r):=by
 refine qp (f:=p86) rfl rfl rfl fun e hl he=>?_;have h0_0:e.at 0=(eC a0):=he 0 _ rfl;have hl_0:e.length=7:=hl;clear he hl;show W A b86 e ⟨[],0⟩ _;unfold F86 at hF;have w2:=s73 a0.Dims rfl;obtain⟨x3,gx3,hF⟩:=bS hF;have wx3:=qm gx3;cases hF;simp only[simprocAttr,R0,b86, *];exact qd (by simp only[simprocAttr,R0,qb,p86,Rs.ev,qa, *])
def F87(a0:List (List (List Int))):Option Int:=
 some (a0.length:Int)
theorem s87(a0:List (List (List Int))){r:Int}(hF:F87 a0=some r):ans A 87 [V.isl (a0.map enc)]=some (enc r):=by
 refine qp (f:=p87) rfl rfl rfl fun e hl he=>?_;have h0_0:e.at 0=V.isl (a0.map enc):=he 0 _ rfl;have hl_0:e.length=5:=hl;clear he hl;show W A b87 e ⟨[],0⟩ _;unfold F87 at hF;cases hF;simp only[simprocAttr,R0,b87, *];exact qd (by simp only[simprocAttr,R0,qb,p87,Rs.ev,qa, *])
def F88(a0:Int):Option Bool:=
 (F56 a0 0 8).bind fun x1=>
 some (!x1)
theorem s88(a0:Int){r:Bool}(hF:F88 a0=some r):ans A 88 [V.int .i64 a0]=some (enc r):=by
 refine qp (f:=p88) rfl rfl rfl fun e hl he=>?_;have h0_0:e.at 0=V.int .i64 a0:=he 0 _ rfl;have hl_0:e.length=6:=hl;clear he hl;show W A b88 e ⟨[],0⟩ _;unfold F88 at hF;obtain⟨x1,gx1,hF⟩:=bS hF;have w2:=s56 a0 0 8 gx1;cases hF;simp only[simprocAttr,R0,b88, *];exact qd (by simp only[simprocAttr,R0,qb,p88,Rs.ev,qa, *])
def F89(a0:List (List Int)):Option Int:=
 some (a0.length:Int)
theorem s89(a0:List (List Int)){r:Int}(hF:F89 a0=some r):ans A 89 [V.isl (a0.map enc)]=some (enc r):=by
 refine qp (f:=p89) rfl rfl rfl fun e hl he=>?_;have h0_0:e.at 0=V.isl (a0.map enc):=he 0 _ rfl;have hl_0:e.length=5:=hl;clear he hl;show W A b89 e ⟨[],0⟩ _;unfold F89 at hF;cases hF;simp only[simprocAttr,R0,b89, *];exact qd (by simp only[simprocAttr,R0,qb,p89,Rs.ev,qa, *])
def F130(a0:Int)(d0:Int):Option Bool:=
 (chk (d0 - 1)).bind fun x1=>
 (F56 a0 0 x1).bind fun x2=>
 some (!x2)
theorem s130(a0:Int)(d0:Int){r:Bool}(hF:F130 a0 d0=some r):ans A 130 [V.int .i64 a0,V.iptr [V.int .i64 d0]]=some (enc r):=by
 refine qp (f:=p130) rfl rfl rfl fun e hl he=>?_;have h0_0:e.at 0=V.int .i64 a0:=he 0 _ rfl;have h1_0:e.at 1=V.iptr [V.int .i64 d0]:=he 1 _ rfl;have hl_0:e.length=9:=hl;clear he hl;show W A b130 e ⟨[],0⟩ _;unfold F130 at hF;obtain⟨x1,gx1,hF⟩:=bS hF;have wx1:=qm gx1;obtain⟨x2,gx2,hF⟩:=bS hF;have w3:=s56 a0 0 x1 gx2;cases hF;simp only[simprocAttr,R0,b130, *];exact qd (by simp only[simprocAttr,R0,qb,p130,Rs.ev,qa, *])
def F129(a0:Int)(a1:Int)(a2:List Int):Option Bool:=
 if(a2.length:Int)=a1 then
  (F82 a2 (fun x=> F130 x a0)).bind fun x4=>
  some (!x4)
 else
  some false
theorem s129(a0:Int)(a1:Int)(a2:List Int){r:Bool}(hF:F129 a0 a1 a2=some r):ans A 129 [V.int .i64 a0,V.int .i64 a1,V.isl (a2.map enc)]=some (enc r):=by
 refine qp (f:=p129) rfl rfl rfl fun e hl he=>?_;have h0_0:e.at 0=V.int .i64 a0:=he 0 _ rfl;have h1_0:e.at 1=V.int .i64 a1:=he 1 _ rfl;have h2_0:e.at 2=V.isl (a2.map enc):=he 2 _ rfl;have hl_0:e.length=17:=hl;clear he hl;have h_0:=ai hl_0 (ai h0_0 (ai h1_0 h2_0));show W A b129 e ⟨[],0⟩ _;unfold F129 at hF;have w2:ans A 73 [V.isl (a2.map enc)]=some (V.int .i64 (a2.length:Int)):=s73 a2 rfl;by_cases c3:(a2.length:Int)=a1
 ·rw[if_pos c3]at hF
  obtain⟨x4,gx4,hF⟩:=bS hF;have w5:ans A 82 [V.isl (a2.map enc),V.fn 130 [] [V.iptr [V.int .i64 a0]]]=some (V.bool x4):=s82 a2 (fun x=> F130 x a0) (Clo1.of (by intro h f; simp only[RZ,mapO]) (by intro h f; simp only[RZ,mapO]) (by intro f; simp only[RZ,RB]) (by intro f; simp only[RZ,RB]) (fun x _ hr=> s130 x a0 hr)) gx4;cases hF;simp only[simprocAttr,R0,b129, *];exact qd (by simp only[simprocAttr,R0,qb,p129,Rs.ev,qa, *])
 ·rw[if_neg c3]at hF
  cases hF;simp only[simprocAttr,R0,b129, *];exact qd (by simp only[simprocAttr,R0,qb,p129,Rs.ev,qa, *])
def F116(a0:List Int)(d0:Int)(d1:Int):Option Bool:=
 (F129 d0 d1 a0).bind fun x1=>
 some (!x1)
theorem s116(a0:List Int)(d0:Int)(d1:Int){r:Bool}(hF:F116 a0 d0 d1=some r):ans A 116 [V.isl (a0.map enc),V.iptr [V.int .i64 d0],V.iptr [V.int .i64 d1]]=some (enc r):=by
 refine qp (f:=p116) rfl rfl rfl fun e hl he=>?_;have h0_0:e.at 0=V.isl (a0.map enc):=he 0 _ rfl;have h1_0:e.at 1=V.iptr [V.int .i64 d0]:=he 1 _ rfl;have h2_0:e.at 2=V.iptr [V.int .i64 d1]:=he 2 _ rfl;have hl_0:e.length=10:=hl;clear he hl;show W A b116 e ⟨[],0⟩ _;unfold F116 at hF;obtain⟨x1,gx1,hF⟩:=bS hF;have w2:=s129 d0 d1 a0 gx1;cases hF;simp only[simprocAttr,R0,b116, *];exact qd (by simp only[simprocAttr,R0,qb,p116,Rs.ev,qa, *])
def xB(a0:List (List Int))(f1:(List Int)→Option Bool)(v8_1:Int)(s:Unit):Option ((Unit)⊕((Unit)⊕Int)):=
 (getI a0 v8_1).bind fun x4=>
(f1 x4).bind fun x6=>
if x6=true then
 some (.inr (.inr v8_1))
else
 some (.inl ())
def F128_1_D(a0:List (List Int))(f1:(List Int)→Option Bool)(v8_1:Int)(s:Unit):Option ((Unit)⊕Int):=
 some (.inl ())
def F128(a0:List (List Int))(f1:(List Int)→Option Bool):Option Int:=
 (forR 0 (a0.length:Int) (xB a0 f1) (F128_1_D a0 f1) ()).bind fun t8=> match t8 with
  | .inl _=>
   some (-1)
  | .inr r9=> some r9
def I128_1(a0:List (List Int))(f1:(List Int)→Option Bool)(vf1:V)(v8_1:Int)(s:Unit)(e:Env)(h:Heap):Prop:=
 ∃k2:Nat,h=⟨[],k2⟩∧e.length=19∧e.at 0=V.isl (a0.map enc)∧e.at 1=vf1∧e.at 7=V.int .i64 (a0.length:Int)∧e.at 8=V.int .i64 v8_1
def P128_1(a0:List (List Int))(f1:(List Int)→Option Bool)(vf1:V)(t:(Unit)⊕Int)(x:Ex)(e:Env)(h:Heap):Prop:=
 match t with
 | .inl _=> x= .normal∧∃k2:Nat,h=⟨[],k2⟩∧e.length=19
 | .inr r=> x= .ret∧Fin p128 (enc r) .ret e h
theorem l128_1(a0:List (List Int))(f1:(List Int)→Option Bool)(vf1:V)(hf1:Clo1 A vf1 f1){lo:Int}{s:Unit}{t:(Unit)⊕Int}(hF:forR lo (a0.length:Int) (xB a0 f1) (F128_1_D a0 f1) s=some t){e:Env}{h:Heap}(hI:I128_1 a0 f1 vf1 lo s e h):W A c128_1 e h (P128_1 a0 f1 vf1 t):=by
 obtain⟨g_f1,fs_f1,cs_f1,hv_f1,hc_f1⟩:=id hf1;show W A (.block 0 (.loop false b128_1)) e h _;rw[qh];refine qv hF 0 (by obtain⟨_,rfl,_⟩:=hI; rfl) (I128_1 a0 f1 vf1) hI ?_ ?_
 ·rintro v8_1 _ e h ⟨k2,rfl,h_1⟩ hlt hw o ho
  unfold xB at ho;obtain⟨x4,gx4,ho⟩:=bS ho;obtain⟨w5a,w5b⟩:=qf gx4;obtain⟨x6,gx6,ho⟩:=bS ho;have w7a:∀h,mapO (frz h 16) (fs_f1++[V.isl (x4.map enc)]++cs_f1)=some (fs_f1++[V.isl (x4.map enc)]++cs_f1):=fun h=> hc_f1.zf x4 h;have w7b:List.all (fs_f1++[V.isl (x4.map enc)]++cs_f1) (ql 16)=true:=hc_f1.zr x4;have w7c:ans A g_f1 (fs_f1++[V.isl (x4.map enc)]++cs_f1)=some (V.bool x6):=hc_f1.ka x4 _ gx6;cases x6 with
  |true=>
   rw[if_pos rfl]at ho;cases ho;simp only[simprocAttr,R0,b128_1, *];intro ht;(first|subst ht|cases t);simp only[simprocAttr,RR,RB];exact ai rfl (qd (by simp only[simprocAttr,R0,qb,p128,Rs.ev,qa, *]))
  |false=>
   rw[if_neg wE]at ho;cases ho;simp only[simprocAttr,R0,b128_1, *];refine ai rfl (ei _ (ai rfl ?_));simp only[simprocAttr,R0, *]
 ·rintro v8_1 _ e h ⟨k2,rfl,h_1⟩ hge t1 ho
  unfold F128_1_D at ho;cases ho;simp only[simprocAttr,R0,b128_1, *];intro ht;(first|subst ht|cases t);refine ai rfl (ei _ (ai rfl ?_));simp only[simprocAttr,R0, *]
theorem s128(a0:List (List Int))(f1:(List Int)→Option Bool){vf1:V}(hf1:Clo1 A vf1 f1){r:Int}(hF:F128 a0 f1=some r):ans A 128 [V.isl (a0.map enc),vf1]=some (enc r):=by
 refine qp (f:=p128) rfl rfl rfl fun e hl he=>?_;have h0_0:e.at 0=V.isl (a0.map enc):=he 0 _ rfl;have h1_0:e.at 1=vf1:=he 1 _ rfl;obtain⟨g_f1,fs_f1,cs_f1,hv_f1,hc_f1⟩:=id hf1;have hl_0:e.length=19:=hl;clear he hl;have h_0:=ai hl_0 (ai h0_0 h1_0);show W A b128 e ⟨[],0⟩ _;unfold F128 at hF;obtain⟨t8,gt8,hF⟩:=bS hF;rcases t8 with _|r9
 ·dsimp only at hF
  simp only[simprocAttr,R0,b128, *];refine W.mono (l128_1 a0 f1 vf1 hf1 gt8 (ei _ (ai rfl ?_))) ?_
  ·simp only[simprocAttr,R0, *]
  rintro _ e _ ⟨rfl,k2,rfl,hl_3⟩;cases hF;simp only[simprocAttr,R0, *];exact qd (by simp only[simprocAttr,R0,qb,p128,Rs.ev,qa, *])
 ·dsimp only at hF
  cases hF;simp only[simprocAttr,R0,b128, *];refine W.mono (l128_1 a0 f1 vf1 hf1 gt8 (ei _ (ai rfl ?_))) ?_
  ·simp only[simprocAttr,R0, *]
  rintro _ e h ⟨rfl,hq⟩;simp only[simprocAttr,RR,RB];exact hq
def F117(a0:List (List Int))(f1:(List Int)→Option Bool):Option Bool:=
 (F128 a0 f1).bind fun x1=>
 some (decide (0≤x1))
theorem s117(a0:List (List Int))(f1:(List Int)→Option Bool){vf1:V}(hf1:Clo1 A vf1 f1){r:Bool}(hF:F117 a0 f1=some r):ans A 117 [V.isl (a0.map enc),vf1]=some (enc r):=by
 refine qp (f:=p117) rfl rfl rfl fun e hl he=>?_;have h0_0:e.at 0=V.isl (a0.map enc):=he 0 _ rfl;have h1_0:e.at 1=vf1:=he 1 _ rfl;obtain⟨g_f1,fs_f1,cs_f1,hv_f1,hc_f1⟩:=id hf1;have hl_0:e.length=9:=hl;clear he hl;show W A b117 e ⟨[],0⟩ _;unfold F117 at hF;obtain⟨x1,gx1,hF⟩:=bS hF;have w2:ans A 128 [V.isl (a0.map enc),vf1]=some (V.int .i64 x1):=s128 a0 f1 hf1 gx1;cases hF;simp only[simprocAttr,R0,b117,hl_0,h0_0,h1_0,hf1.fz,hf1.rl,w2];exact qd (by simp only[simprocAttr,R0,qb,p117,Rs.ev,qa,hl_0,h0_0,h1_0,hf1.fz,hf1.rl,w2])
def F90(a0:Int)(a1:Int)(a2:List (List Int)):Option Bool:=
 (F117 a2 (fun x=> F116 x a0 a1)).bind fun x1=>
 some (!x1)
theorem s90(a0:Int)(a1:Int)(a2:List (List Int)){r:Bool}(hF:F90 a0 a1 a2=some r):ans A 90 [V.int .i64 a0,V.int .i64 a1,V.isl (a2.map enc)]=some (enc r):=by
 refine qp (f:=p90) rfl rfl rfl fun e hl he=>?_;have h0_0:e.at 0=V.int .i64 a0:=he 0 _ rfl;have h1_0:e.at 1=V.int .i64 a1:=he 1 _ rfl;have h2_0:e.at 2=V.isl (a2.map enc):=he 2 _ rfl;have hl_0:e.length=11:=hl;clear he hl;show W A b90 e ⟨[],0⟩ _;unfold F90 at hF;obtain⟨x1,gx1,hF⟩:=bS hF;have w2:ans A 117 [V.isl (a2.map enc),V.fn 116 [] [V.iptr [V.int .i64 a0],V.iptr [V.int .i64 a1]]]=some (V.bool x1):=s117 a2 (fun x=> F116 x a0 a1) (Clo1.of (by intro h f; simp only[RZ,mapO]) (by intro h f; simp only[RZ,mapO]) (by intro f; simp only[RZ,RB]) (by intro f; simp only[RZ,RB]) (fun x _ hr=> s116 x a0 a1 hr)) gx1;cases hF;simp only[simprocAttr,R0,b90, *];exact qd (by simp only[simprocAttr,R0,qb,p90,Rs.ev,qa, *])
def F119_2_B(a0:Int)(a2:List Int)(a3:List (List Int))(v18_1:Int)(x7:Int)(x9:List Int)(v28_2:Int)(o0_2:(List Int)):Option (((List Int))⊕((List Int))):=
 (getI x9 v28_2).bind fun x15=>
(getI o0_2 v28_2).bind fun x17=>
(chk (x7*x15)).bind fun x19=>
(chk (x17+x19)).bind fun x20=>
(remI x20 a0).bind fun x21=>
(setI o0_2 v28_2 x21).bind fun l23=>
some (.inl l23)
def F119_2_D(a0:Int)(a2:List Int)(a3:List (List Int))(v18_1:Int)(x7:Int)(x9:List Int)(v28_2:Int)(o0_2:(List Int)):Option ((List Int)):=
 some o0_2
def F119_1_B(a0:Int)(a2:List Int)(a3:List (List Int))(v18_1:Int)(o0_1:(List Int)):Option (((List Int))⊕((List Int))):=
 (getI a2 v18_1).bind fun x7=>
(getI a3 v18_1).bind fun x9=>
(forR 0 (x9.length:Int) (F119_2_B a0 a2 a3 v18_1 x7 x9) (F119_2_D a0 a2 a3 v18_1 x7 x9) o0_1).bind fun zo0_2=>
some (.inl zo0_2)
def F119_1_D(a0:Int)(a2:List Int)(a3:List (List Int))(v18_1:Int)(o0_1:(List Int)):Option ((List Int)):=
 some o0_1
def F119(a0:Int)(a1:Int)(a2:List Int)(a3:List (List Int)):Option (List Int):=
 (mkL 8 a1 0).bind fun l1=>
 (forR 0 (a2.length:Int) (F119_1_B a0 a2 a3) (F119_1_D a0 a2 a3) l1).bind fun zo0_1=>
 some zo0_1
def I119_2(a0:Int)(a2:List Int)(a3:List (List Int))(v18_1:Int)(x7:Int)(x9:List Int)(v28_2:Int)(o0_2:(List Int))(e:Env)(h:Heap):Prop:=
 ∃u12 k13:Nat,h=⟨[(u12,some (o0_2.map enc))],k13⟩∧e.length=49∧e.at 0=V.int .i64 a0∧e.at 3=V.isl (a3.map enc)∧e.at 9=V.sl 0 u12 0 o0_2.length 1∧e.at 11=V.int .i64 x7∧e.at 16=V.isl (a2.map enc)∧e.at 17=V.int .i64 (a2.length:Int)∧e.at 18=V.int .i64 v18_1∧e.at 26=V.isl (x9.map enc)∧e.at 27=V.int .i64 (x9.length:Int)∧e.at 28=V.int .i64 v28_2
def P119_2(a0:Int)(a2:List Int)(a3:List (List Int))(v18_1:Int)(x7:Int)(x9:List Int)(zo0_2:(List Int))(x:Ex)(e:Env)(h:Heap):Prop:=
 x= .normal∧∃u12 k13:Nat,h=⟨[(u12,some (zo0_2.map enc))],k13⟩∧e.length=49∧e.at 0=V.int .i64 a0∧e.at 3=V.isl (a3.map enc)∧e.at 9=V.sl 0 u12 0 zo0_2.length 1∧e.at 16=V.isl (a2.map enc)∧e.at 17=V.int .i64 (a2.length:Int)∧e.at 18=V.int .i64 v18_1
theorem l119_2(a0:Int)(a2:List Int)(a3:List (List Int))(v18_1:Int)(x7:Int)(x9:List Int){lo:Int}{s:(List Int)}{t:(List Int)}(hF:forR lo (x9.length:Int) (F119_2_B a0 a2 a3 v18_1 x7 x9) (F119_2_D a0 a2 a3 v18_1 x7 x9) s=some t){e:Env}{h:Heap}(hI:I119_2 a0 a2 a3 v18_1 x7 x9 lo s e h):W A c119_2 e h (P119_2 a0 a2 a3 v18_1 x7 x9 t):=by
 show W A (.block 2 (.loop false b119_2)) e h _;rw[qh];refine qv hF 1 (by obtain⟨_,_,rfl,_⟩:=hI; rfl) (I119_2 a0 a2 a3 v18_1 x7 x9) hI ?_ ?_
 ·rintro v28_2 o0_2 e h ⟨u12,k13,rfl,h_11⟩ hlt hw o ho
  unfold F119_2_B at ho;obtain⟨x15,gx15,ho⟩:=bS ho;obtain⟨w16a,w16b⟩:=qf gx15;obtain⟨x17,gx17,ho⟩:=bS ho;obtain⟨w18a,w18b⟩:=qf gx17;have w18c:=za gx17;have w18d:List.drop (Int.toNat v28_2) (o0_2.map enc)=(V.int .i64 x17)::List.drop ((Int.toNat v28_2)+1) (o0_2.map enc):=jG w18b;obtain⟨x19,gx19,ho⟩:=bS ho;have wx19:=qm gx19;obtain⟨x20,gx20,ho⟩:=bS ho;have wx20:=qm gx20;obtain⟨x21,gx21,ho⟩:=bS ho;obtain⟨w22a,w22b⟩:=rem_w gx21;obtain⟨l23,gl23,ho⟩:=bS ho;obtain⟨w24a,w24b,w24c,w24d,w24e⟩:=setI_w gl23;replace w24e:List.take (Int.toNat v28_2) (o0_2.map enc)++[V.int .i64 x21]++List.drop (Int.toNat v28_2+1) (o0_2.map enc)=List.map enc l23:=w24e;cases ho;simp only[simprocAttr,R0,b119_2, *];refine ai rfl (ei _ (ei _ (ai rfl ?_)));simp only[simprocAttr,R0, *]
 ·rintro v28_2 o0_2 e h ⟨u12,k13,rfl,h_11⟩ hge t1 ho
  unfold F119_2_D at ho;cases ho;simp only[simprocAttr,R0,b119_2, *];intro ht;(first|subst ht|cases t);refine ai rfl (ei _ (ei _ (ai rfl ?_)));simp only[simprocAttr,R0, *]
def I119_1(a0:Int)(a2:List Int)(a3:List (List Int))(v18_1:Int)(o0_1:(List Int))(e:Env)(h:Heap):Prop:=
 ∃u4 k5:Nat,h=⟨[(u4,some (o0_1.map enc))],k5⟩∧e.length=49∧e.at 0=V.int .i64 a0∧e.at 3=V.isl (a3.map enc)∧e.at 9=V.sl 0 u4 0 o0_1.length 1∧e.at 16=V.isl (a2.map enc)∧e.at 17=V.int .i64 (a2.length:Int)∧e.at 18=V.int .i64 v18_1
def P119_1(a0:Int)(a2:List Int)(a3:List (List Int))(zo0_1:(List Int))(x:Ex)(e:Env)(h:Heap):Prop:=
 x= .normal∧∃u4 k5:Nat,h=⟨[(u4,some (zo0_1.map enc))],k5⟩∧e.length=49∧e.at 9=V.sl 0 u4 0 zo0_1.length 1
theorem l119_1(a0:Int)(a2:List Int)(a3:List (List Int)){lo:Int}{s:(List Int)}{t:(List Int)}(hF:forR lo (a2.length:Int) (F119_1_B a0 a2 a3) (F119_1_D a0 a2 a3) s=some t){e:Env}{h:Heap}(hI:I119_1 a0 a2 a3 lo s e h):W A c119_1 e h (P119_1 a0 a2 a3 t):=by
 show W A (.block 0 (.loop false b119_1)) e h _;rw[qh];refine qv hF 1 (by obtain⟨_,_,rfl,_⟩:=hI; rfl) (I119_1 a0 a2 a3) hI ?_ ?_
 ·rintro v18_1 o0_1 e h ⟨u4,k5,rfl,h_3⟩ hlt hw o ho
  unfold F119_1_B at ho;obtain⟨x7,gx7,ho⟩:=bS ho;obtain⟨w8a,w8b⟩:=qf gx7;obtain⟨x9,gx9,ho⟩:=bS ho;obtain⟨w10a,w10b⟩:=qf gx9;obtain⟨zo0_2,gt25,ho⟩:=bS ho;simp only[simprocAttr,R0,b119_1, *];refine W.mono (l119_2 a0 a2 a3 v18_1 x7 x9 gt25 (ei _ (ei _ (ai rfl ?_)))) ?_
  ·simp only[simprocAttr,R0, *]
  rintro _ e _ ⟨rfl,u12,k13,rfl,h_14⟩;cases ho;simp only[simprocAttr,R0, *];refine ai rfl (ei _ (ei _ (ai rfl ?_)));simp only[simprocAttr,R0, *]
 ·rintro v18_1 o0_1 e h ⟨u4,k5,rfl,h_3⟩ hge t1 ho
  unfold F119_1_D at ho;cases ho;simp only[simprocAttr,R0,b119_1, *];intro ht;(first|subst ht|cases t);refine ai rfl (ei _ (ei _ (ai rfl ?_)));simp only[simprocAttr,R0, *]
theorem s119(a0:Int)(a1:Int)(a2:List Int)(a3:List (List Int)){r:List Int}(hF:F119 a0 a1 a2 a3=some r):ans A 119 [V.int .i64 a0,V.int .i64 a1,V.isl (a2.map enc),V.isl (a3.map enc)]=some (enc r):=by
 refine qp (f:=p119) rfl rfl rfl fun e hl he=>?_;have h0_0:e.at 0=V.int .i64 a0:=he 0 _ rfl;have h1_0:e.at 1=V.int .i64 a1:=he 1 _ rfl;have h2_0:e.at 2=V.isl (a2.map enc):=he 2 _ rfl;have h3_0:e.at 3=V.isl (a3.map enc):=he 3 _ rfl;have hl_0:e.length=49:=hl;clear he hl;show W A b119 e ⟨[],0⟩ _;unfold F119 at hF;obtain⟨l1,gl1,hF⟩:=bS hF;obtain⟨w2a,w2b,w2c,w2d,w2e⟩:=mkL_w gl1;replace w2e:(List.replicate (Int.toNat a1) [V.int .i64 0]).flatten=List.map enc l1:=w2e;obtain⟨zo0_1,gt26,hF⟩:=bS hF;simp only[simprocAttr, -Int.reduceNatCast',R0,b119, *];refine W.mono (l119_1 a0 a2 a3 gt26 (ei _ (ei _ (ai rfl ?_)))) ?_
 ·simp only[simprocAttr, -Int.reduceNatCast',R0, *]
 rintro _ e _ ⟨rfl,u4,k5,rfl,hl_6,h9_6⟩;have hE:=wA hF; subst hE;simp only[simprocAttr, -Int.reduceNatCast',R0, *];exact qd (by simp only[simprocAttr, -Int.reduceNatCast',R0,qb,p119,Rs.ev,qa,frzs (α:=Int) zo0_1,zd (α:=Int) zo0_1, *])
def F91(a0:GComplex)(a1:Int)(a2:List Int):Option (List Int):=
 if a1≤0 then
  some ([]:List Int)
 else
  (F86 a0).bind fun x2=>
  if x2 < a1 then
   some ([]:List Int)
  else
   (chk (a1 - 1)).bind fun x5=>
   (getI a0.Dims x5).bind fun x6=>
   (getI a0.Maps x5).bind fun x8=>
   (F119 a0.Prime x6 a2 x8).bind fun x10=>
   some x10
theorem s91(a0:GComplex)(a1:Int)(a2:List Int){r:List Int}(hF:F91 a0 a1 a2=some r):ans A 91 [(eC a0),V.int .i64 a1,V.isl (a2.map enc)]=some (enc r):=by
 refine qp (f:=p91) rfl rfl rfl fun e hl he=>?_;have h0_0:e.at 0=(eC a0):=he 0 _ rfl;have h1_0:e.at 1=V.int .i64 a1:=he 1 _ rfl;have h2_0:e.at 2=V.isl (a2.map enc):=he 2 _ rfl;have hl_0:e.length=31:=hl;clear he hl;have h_0:=ai hl_0 (ai h0_0 (ai h1_0 h2_0));show W A b91 e ⟨[],0⟩ _;unfold F91 at hF;by_cases c1:a1≤0
 ·rw[if_pos c1]at hF
  cases hF;simp only[simprocAttr,R0,b91, *];exact qd (by simp only[simprocAttr,R0,qb,p91,Rs.ev,qa, *])
 ·rw[if_neg c1]at hF
  obtain⟨x2,gx2,hF⟩:=bS hF;have w3:=s86 a0 gx2;by_cases c4:x2 < a1
  ·rw[if_pos c4]at hF
   cases hF;simp only[simprocAttr,R0,b91, *];exact qd (by simp only[simprocAttr,R0,qb,p91,Rs.ev,qa, *])
  ·rw[if_neg c4]at hF
   obtain⟨x5,gx5,hF⟩:=bS hF;have wx5:=qm gx5;obtain⟨x6,gx6,hF⟩:=bS hF;obtain⟨w7a,w7b⟩:=qf gx6;obtain⟨x8,gx8,hF⟩:=bS hF;obtain⟨w9a,w9b⟩:=qf gx8;obtain⟨x10,gx10,hF⟩:=bS hF;have w11:=s119 a0.Prime x6 a2 x8 gx10;cases hF;simp only[simprocAttr,R0,b91, *];exact qd (by simp only[simprocAttr,R0,qb,p91,Rs.ev,qa, *])
def F118(a0:Int):Option Bool:=
 some (!(decide (a0=0)))
theorem s118(a0:Int){r:Bool}(hF:F118 a0=some r):ans A 118 [V.int .i64 a0]=some (enc r):=by
 refine qp (f:=p118) rfl rfl rfl fun e hl he=>?_;have h0_0:e.at 0=V.int .i64 a0:=he 0 _ rfl;have hl_0:e.length=5:=hl;clear he hl;show W A b118 e ⟨[],0⟩ _;unfold F118 at hF;cases hF;simp only[simprocAttr,R0,b118, *];exact qd (by simp only[simprocAttr,R0,qb,p118,Rs.ev,qa, *])
def F92(a0:List Int):Option Bool:=
 (F82 a0 (fun x=> F118 x)).bind fun x1=>
 some (!x1)
theorem s92(a0:List Int){r:Bool}(hF:F92 a0=some r):ans A 92 [V.isl (a0.map enc)]=some (enc r):=by
 refine qp (f:=p92) rfl rfl rfl fun e hl he=>?_;have h0_0:e.at 0=V.isl (a0.map enc):=he 0 _ rfl;have hl_0:e.length=6:=hl;clear he hl;show W A b92 e ⟨[],0⟩ _;unfold F92 at hF;obtain⟨x1,gx1,hF⟩:=bS hF;have w2:ans A 82 [V.isl (a0.map enc),V.fn 118 [] []]=some (V.bool x1):=s82 a0 (fun x=> F118 x) (Clo1.of (by intro h f; simp only[RZ,mapO]) (by intro h f; simp only[RZ,mapO]) (by intro f; simp only[RZ,RB]) (by intro f; simp only[RZ,RB]) (fun x _ hr=> s118 x hr)) gx1;cases hF;simp only[simprocAttr,R0,b92, *];exact qd (by simp only[simprocAttr,R0,qb,p92,Rs.ev,qa, *])
def F42_1_B(a0:GComplex)(v34_1:Int)(s:Unit):Option ((Unit)⊕((Unit)⊕Bool)):=
 (getI a0.Maps v34_1).bind fun x15=>
(getI a0.Dims (v34_1+1)).bind fun x19=>
if(x15.length:Int)=x19 then
 (getI a0.Dims v34_1).bind fun x22=>
 (F90 a0.Prime x22 x15).bind fun x24=>
 if x24=true then
  some (.inl ())
 else
  some (.inr (.inr false))
else
 some (.inr (.inr false))
def F42_1_D(a0:GComplex)(v34_1:Int)(s:Unit):Option ((Unit)⊕Bool):=
 some (.inl ())
def F42_3_B(a0:GComplex)(v5_2:Int)(x34:List (List Int))(v74_3:Int)(s:Unit):Option ((Unit)⊕((Unit)⊕Bool)):=
 (getI x34 v74_3).bind fun x39=>
(chk (v5_2 - 1)).bind fun x41=>
(F91 a0 x41 x39).bind fun x42=>
(F92 x42).bind fun x44=>
if x44=true then
 some (.inl ())
else
 some (.inr (.inr false))
def F42_3_D(a0:GComplex)(v5_2:Int)(x34:List (List Int))(v74_3:Int)(s:Unit):Option ((Unit)⊕Bool):=
 some (.inl ())
def F42_2_S(a0:GComplex)(v5_2:Int):Option ((Int)⊕((Unit)⊕Bool)):=
 (F86 a0).bind fun x30=>
if v5_2≤x30 then
 (chk (v5_2 - 1)).bind fun x33=>
 (getI a0.Maps x33).bind fun x34=>
 (forR 0 (x34.length:Int) (F42_3_B a0 v5_2 x34) (F42_3_D a0 v5_2 x34) ()).bind fun t46=> match t46 with
  | .inl _=>
   (chk (v5_2+1)).bind fun x47=>
   some (.inl x47)
  | .inr r48=> some (.inr (.inr r48))
else
 some (.inr (.inl ()))
def F42(a0:GComplex):Option Bool:=
 (F67 a0.Prime).bind fun x1=>
 if x1=true then
  (F86 a0).bind fun x3=>
  (F56 x3 0 5).bind fun x5=>
  if x5=true then
   if(a0.Maps.length:Int)=x3 then
    (F82 a0.Dims (fun x=> F88 x)).bind fun x10=>
    if x10=true then
     some false
    else
     (forR 0 (a0.Maps.length:Int) (F42_1_B a0) (F42_1_D a0) ()).bind fun t26=> match t26 with
      | .inl _=>
       (qB (F42_2_S a0) 2).bind fun t49=> match t49 with
        | .inl _=>
         some true
        | .inr r50=> some r50
      | .inr r51=> some r51
   else
    some false
  else
   some false
 else
  some false
def I42_1(a0:GComplex)(v34_1:Int)(s:Unit)(e:Env)(h:Heap):Prop:=
 ∃k13:Nat,h=⟨[(0,none)],k13⟩∧e.length=86∧e.at 1=V.iptr [V.int .i64 a0.Prime,V.isl (a0.Dims.map enc),V.isl (a0.Maps.map enc)]∧e.at 32=V.isl (a0.Maps.map enc)∧e.at 33=V.int .i64 (a0.Maps.length:Int)∧e.at 34=V.int .i64 v34_1
def P42_1(a0:GComplex)(t:(Unit)⊕Bool)(x:Ex)(e:Env)(h:Heap):Prop:=
 match t with
 | .inl _=> x= .normal∧∃k13:Nat,h=⟨[(0,none)],k13⟩∧e.length=86∧e.at 1=V.iptr [V.int .i64 a0.Prime,V.isl (a0.Dims.map enc),V.isl (a0.Maps.map enc)]
 | .inr r=> x= .ret∧Fin p42 (enc r) .ret e h
theorem l42_1(a0:GComplex){lo:Int}{s:Unit}{t:(Unit)⊕Bool}(hF:forR lo (a0.Maps.length:Int) (F42_1_B a0) (F42_1_D a0) s=some t){e:Env}{h:Heap}(hI:I42_1 a0 lo s e h):W A c42_1 e h (P42_1 a0 t):=by
 show W A (.block 0 (.loop false b42_1)) e h _;rw[qh];refine qv hF 1 (by obtain⟨_,rfl,_⟩:=hI; rfl) (I42_1 a0) hI ?_ ?_
 ·rintro v34_1 _ e h ⟨k13,rfl,h_12⟩ hlt hw o ho
  unfold F42_1_B at ho;obtain⟨x15,gx15,ho⟩:=bS ho;obtain⟨w16a,w16b⟩:=qf gx15;have w18:=s89 x15 rfl;obtain⟨x19,gx19,ho⟩:=bS ho;obtain⟨w20a,w20b⟩:=qf gx19;by_cases c21:(x15.length:Int)=x19
  ·rw[if_pos c21]at ho
   obtain⟨x22,gx22,ho⟩:=bS ho;obtain⟨w23a,w23b⟩:=qf gx22;obtain⟨x24,gx24,ho⟩:=bS ho;have w25:=s90 a0.Prime x22 x15 gx24;cases x24 with
   |true=>
    rw[if_pos rfl]at ho;cases ho;simp only[simprocAttr,R0,b42_1, *];refine ai rfl (ei _ (ai rfl ?_));simp only[simprocAttr,R0, *]
   |false=>
    rw[if_neg wE]at ho;cases ho;simp only[simprocAttr,R0,b42_1, *];intro ht;(first|subst ht|cases t);simp only[simprocAttr,RR,RB];exact ai rfl (qd (by simp only[simprocAttr,R0,qb,p42,Rs.ev,qa, *]))
  ·rw[if_neg c21]at ho
   cases ho;simp only[simprocAttr,R0,b42_1, *];intro ht;(first|subst ht|cases t);simp only[simprocAttr,RR,RB];exact ai rfl (qd (by simp only[simprocAttr,R0,qb,p42,Rs.ev,qa, *]))
 ·rintro v34_1 _ e h ⟨k13,rfl,h_12⟩ hge t1 ho
  unfold F42_1_D at ho;cases ho;simp only[simprocAttr,R0,b42_1, *];intro ht;(first|subst ht|cases t);refine ai rfl (ei _ (ai rfl ?_));simp only[simprocAttr,R0, *]
def I42_3(a0:GComplex)(v5_2:Int)(x34:List (List Int))(v74_3:Int)(s:Unit)(e:Env)(h:Heap):Prop:=
 ∃k37:Nat,h=⟨[(0,none)],k37⟩∧e.length=86∧e.at 1=V.iptr [V.int .i64 a0.Prime,V.isl (a0.Dims.map enc),V.isl (a0.Maps.map enc)]∧e.at 5=V.int .i64 v5_2∧e.at 72=V.isl (x34.map enc)∧e.at 73=V.int .i64 (x34.length:Int)∧e.at 74=V.int .i64 v74_3
def P42_3(a0:GComplex)(v5_2:Int)(x34:List (List Int))(t:(Unit)⊕Bool)(x:Ex)(e:Env)(h:Heap):Prop:=
 match t with
 | .inl _=> x= .normal∧∃k37:Nat,h=⟨[(0,none)],k37⟩∧e.length=86∧e.at 1=V.iptr [V.int .i64 a0.Prime,V.isl (a0.Dims.map enc),V.isl (a0.Maps.map enc)]∧e.at 5=V.int .i64 v5_2
 | .inr r=> x= .ret∧Fin p42 (enc r) .ret e h
theorem l42_3(a0:GComplex)(v5_2:Int)(x34:List (List Int)){lo:Int}{s:Unit}{t:(Unit)⊕Bool}(hF:forR lo (x34.length:Int) (F42_3_B a0 v5_2 x34) (F42_3_D a0 v5_2 x34) s=some t){e:Env}{h:Heap}(hI:I42_3 a0 v5_2 x34 lo s e h):W A c42_3 e h (P42_3 a0 v5_2 x34 t):=by
 show W A (.block 4 (.loop false b42_3)) e h _;rw[qh];refine qv hF 1 (by obtain⟨_,rfl,_⟩:=hI; rfl) (I42_3 a0 v5_2 x34) hI ?_ ?_
 ·rintro v74_3 _ e h ⟨k37,rfl,h_36⟩ hlt hw o ho
  unfold F42_3_B at ho;obtain⟨x39,gx39,ho⟩:=bS ho;obtain⟨w40a,w40b⟩:=qf gx39;obtain⟨x41,gx41,ho⟩:=bS ho;have wx41:=qm gx41;obtain⟨x42,gx42,ho⟩:=bS ho;have w43:=s91 a0 x41 x39 gx42;obtain⟨x44,gx44,ho⟩:=bS ho;have w45:=s92 x42 gx44;cases x44 with
  |true=>
   rw[if_pos rfl]at ho;cases ho;simp only[simprocAttr,R0,b42_3, *];refine ai rfl (ei _ (ai rfl ?_));simp only[simprocAttr,R0, *]
  |false=>
   rw[if_neg wE]at ho;cases ho;simp only[simprocAttr,R0,b42_3, *];intro ht;(first|subst ht|cases t);simp only[simprocAttr,RR,RB];exact ai rfl (qd (by simp only[simprocAttr,R0,qb,p42,Rs.ev,qa, *]))
 ·rintro v74_3 _ e h ⟨k37,rfl,h_36⟩ hge t1 ho
  unfold F42_3_D at ho;cases ho;simp only[simprocAttr,R0,b42_3, *];intro ht;(first|subst ht|cases t);refine ai rfl (ei _ (ai rfl ?_));simp only[simprocAttr,R0, *]
def I42_2(a0:GComplex)(v5_2:Int)(e:Env)(h:Heap):Prop:=
 ∃k28:Nat,h=⟨[(0,none)],k28⟩∧e.length=86∧e.at 1=V.iptr [V.int .i64 a0.Prime,V.isl (a0.Dims.map enc),V.isl (a0.Maps.map enc)]∧e.at 5=V.int .i64 v5_2
def P42_2(a0:GComplex)(t:(Unit)⊕Bool)(x:Ex)(e:Env)(h:Heap):Prop:=
 match t with
 | .inl _=> x= .normal∧∃k28:Nat,h=⟨[(0,none)],k28⟩∧e.length=86
 | .inr r=> x= .ret∧Fin p42 (enc r) .ret e h
theorem l42_2(a0:GComplex){s:Int}{t:(Unit)⊕Bool}(hF:qB (F42_2_S a0) s=some t){e:Env}{h:Heap}(hI:I42_2 a0 s e h):W A c42_2 e h (P42_2 a0 t):=by
 show W A (.block 2 (.loop false b42_2)) e h _;rw[qh];refine zy hF 1 (by obtain⟨_,rfl,_⟩:=hI; rfl) (I42_2 a0) hI ?_
 ·rintro v5_2 e h ⟨k28,rfl,h_27⟩ o ho
  unfold F42_2_S at ho;obtain⟨x30,gx30,ho⟩:=bS ho;have w31:=s86 a0 gx30;by_cases c32:v5_2≤x30
  ·rw[if_pos c32]at ho
   obtain⟨x33,gx33,ho⟩:=bS ho;have wx33:=qm gx33;obtain⟨x34,gx34,ho⟩:=bS ho;obtain⟨w35a,w35b⟩:=qf gx34;obtain⟨t46,gt46,ho⟩:=bS ho;rcases t46 with _|r48
   ·dsimp only at ho
    simp only[simprocAttr,R0,b42_2, *];refine W.mono (l42_3 a0 v5_2 x34 gt46 (ei _ (ai rfl ?_))) ?_
    ·simp only[simprocAttr,R0, *]
    rintro _ e _ ⟨rfl,k37,rfl,h_38⟩;obtain⟨x47,gx47,ho⟩:=bS ho;have wx47:=qm gx47;cases ho;simp only[simprocAttr,R0, *];refine ai rfl (ei _ (ai rfl ?_));simp only[simprocAttr,R0, *]
   ·dsimp only at ho
    cases ho;simp only[simprocAttr,R0,b42_2, *];refine W.mono (l42_3 a0 v5_2 x34 gt46 (ei _ (ai rfl ?_))) ?_
    ·simp only[simprocAttr,R0, *]
    rintro _ e h ⟨rfl,hq⟩;simp only[simprocAttr,RR,RB];intro ht; subst ht;simp only[simprocAttr,RR,RB];exact ai rfl hq
  ·rw[if_neg c32]at ho
   cases ho;simp only[simprocAttr,R0,b42_2, *];intro ht;(first|subst ht|cases t);simp only[simprocAttr,RR,RB];refine ai rfl (ei _ (ai rfl ?_));simp only[simprocAttr,R0, *]
theorem s42(a0:GComplex){r:Bool}(hF:F42 a0=some r):ans A 42 [(eC a0)]=some (enc r):=by
 refine qp (f:=p42) rfl rfl rfl fun e hl he=>?_;have h0_0:e.at 0=(eC a0):=he 0 _ rfl;have hl_0:e.length=86:=hl;clear he hl;have h_0:=ai hl_0 h0_0;show W A b42 e ⟨[],0⟩ _;unfold F42 at hF;obtain⟨x1,gx1,hF⟩:=bS hF;have w2:ans A 67 [V.int .i64 a0.Prime]=some (V.bool x1):=s67 a0.Prime gx1;cases x1 with
 |true=>
  rw[if_pos rfl]at hF;obtain⟨x3,gx3,hF⟩:=bS hF;have w4:ans A 86 [(eC a0)]=some (V.int .i64 x3):=s86 a0 gx3;obtain⟨x5,gx5,hF⟩:=bS hF;have w6:ans A 56 [V.int .i64 x3,V.int .i64 0,V.int .i64 5]=some (V.bool x5):=s56 x3 0 5 gx5;cases x5 with
  |true=>
   rw[if_pos rfl]at hF;have w8:ans A 87 [V.isl (a0.Maps.map enc)]=some (V.int .i64 (a0.Maps.length:Int)):=s87 a0.Maps rfl;by_cases c9:(a0.Maps.length:Int)=x3
   ·rw[if_pos c9]at hF
    obtain⟨x10,gx10,hF⟩:=bS hF;have w11:ans A 82 [V.isl (a0.Dims.map enc),V.fn 88 [] []]=some (V.bool x10):=s82 a0.Dims (fun x=> F88 x) (Clo1.of (by intro h f; simp only[RZ,mapO]) (by intro h f; simp only[RZ,mapO]) (by intro f; simp only[RZ,RB]) (by intro f; simp only[RZ,RB]) (fun x _ hr=> s88 x hr)) gx10;cases x10 with
    |true=>
     rw[if_pos rfl]at hF;cases hF;simp only[simprocAttr,R0,b42, *];exact qd (by simp only[simprocAttr,R0,qb,p42,Rs.ev,qa, *])
    |false=>
     rw[if_neg wE]at hF;obtain⟨t26,gt26,hF⟩:=bS hF;rcases t26 with _|r51
     ·dsimp only at hF
      simp only[simprocAttr,R0,b42, *];refine W.mono (l42_1 a0 gt26 (ei _ (ai rfl ?_))) ?_
      ·simp only[simprocAttr,R0, *]
      rintro _ e _ ⟨rfl,k13,rfl,h_14⟩;obtain⟨t49,gt49,hF⟩:=bS hF;rcases t49 with _|r50
      ·dsimp only at hF
       simp only[simprocAttr,R0, *];refine W.mono (l42_2 a0 gt49 (ei _ (ai rfl ?_))) ?_
       ·simp only[simprocAttr,R0, *]
       rintro _ e _ ⟨rfl,k28,rfl,hl_29⟩;cases hF;simp only[simprocAttr,R0, *];exact qd (by simp only[simprocAttr,R0,qb,p42,Rs.ev,qa, *])
      ·dsimp only at hF
       cases hF;simp only[simprocAttr,R0, *];refine W.mono (l42_2 a0 gt49 (ei _ (ai rfl ?_))) ?_
       ·simp only[simprocAttr,R0, *]
       rintro _ e h ⟨rfl,hq⟩;simp only[simprocAttr,RR,RB];exact hq
     ·dsimp only at hF
      cases hF;simp only[simprocAttr,R0,b42, *];refine W.mono (l42_1 a0 gt26 (ei _ (ai rfl ?_))) ?_
      ·simp only[simprocAttr,R0, *]
      rintro _ e h ⟨rfl,hq⟩;simp only[simprocAttr,RR,RB];exact hq
   ·rw[if_neg c9]at hF
    cases hF;simp only[simprocAttr,R0,b42, *];exact qd (by simp only[simprocAttr,R0,qb,p42,Rs.ev,qa, *])
  |false=>
   rw[if_neg wE]at hF;cases hF;simp only[simprocAttr,R0,b42, *];exact qd (by simp only[simprocAttr,R0,qb,p42,Rs.ev,qa, *])
 |false=>
  rw[if_neg wE]at hF;cases hF;simp only[simprocAttr,R0,b42, *];exact qd (by simp only[simprocAttr,R0,qb,p42,Rs.ev,qa, *])
def F83(a0:Int):Option Bool:=
 (F56 a0 0 5).bind fun x1=>
 some (!x1)
theorem s83(a0:Int){r:Bool}(hF:F83 a0=some r):ans A 83 [V.int .i64 a0]=some (enc r):=by
 refine qp (f:=p83) rfl rfl rfl fun e hl he=>?_;have h0_0:e.at 0=V.int .i64 a0:=he 0 _ rfl;have hl_0:e.length=6:=hl;clear he hl;show W A b83 e ⟨[],0⟩ _;unfold F83 at hF;obtain⟨x1,gx1,hF⟩:=bS hF;have w2:=s56 a0 0 5 gx1;cases hF;simp only[simprocAttr,R0,b83, *];exact qd (by simp only[simprocAttr,R0,qb,p83,Rs.ev,qa, *])
end
end Rv
