/- What the abstract code answers: typed functions, part 1. -/
import Derived.Test.YtfecoipgcigamaaGreatCmp
namespace Rv
theorem ai{a b:Prop}(x:a)(y:b):a∧b:=⟨x,y⟩
theorem ei.{u}{α:Sort u}{p:α→Prop}(w:α)(h:p w):∃x,p x:=⟨w,h⟩
set_option linter.unusedVariables false
set_option linter.unusedSimpArgs false
set_option maxRecDepth 100000
noncomputable section
abbrev eC(x:GComplex):V:=V.agg [V.int .i64 x.Prime,V.isl (x.Dims.map Enc.enc),V.isl (x.Maps.map Enc.enc)]
theorem R1:type_of%(ai RR (ai RB (ai RZ (ai @ii_eq <|ai @nn_eq <|ai @oM_e <|ai @oL_e <|ai @oS_e <|ai @oF_e <|ai @oB_e <|ai @oC_e <|ai @oI_e <|ai @oN_e <|ai @oP_e <|ai @oQ_e <|ai @oR_e <|ai @oU_e <|ai @opEv.eq_1 <|ai @opEv.eq_2 <|ai @opEv.eq_3 <|ai @opEv.eq_4 <|ai @opEv.eq_5 <|ai @opEv.eq_6 <|ai @opEv.eq_7 <|ai @opEv.eq_8 <|ai @opEv.eq_9 <|ai @opEv.eq_10 <|ai @opEv.eq_11 <|ai @opEv.eq_12 <|ai @opEv.eq_13 <|ai @opEv.eq_14 <|ai @opEv.eq_15 <|ai @opEv.eq_16 <|ai @opEv.eq_17 <|ai @opEv.eq_18 <|ai @opEv.eq_19 <|ai @opEv.eq_20 <|ai @opEv.eq_21 <|ai @opEv.eq_22 <|ai @opEv.eq_23 <|ai @opEv.eq_24 <|ai @opEv.eq_25 <|ai @opEv.eq_26 <|ai @opEv.eq_27 <|ai @opEv.eq_28 <|ai @opEv.eq_29 <|ai @opEv.eq_30 <|ai @opEv.eq_31 <|ai @opEv.eq_32 <|ai @opEv.eq_33 <|ai @opEv.eq_34 <|ai @opEv.eq_35 <|ai @opEv.eq_36 <|ai @opEv.eq_37 <|ai @fillV.eq_1 <|ai @fillV.eq_2 <|ai @mapO.eq_1 <|ai @mapO.eq_2 <|ai @mapS.eq_1 <| @mapS.eq_2)))):=ai RR (ai RB (ai RZ (ai @ii_eq <|ai @nn_eq <|ai @oM_e <|ai @oL_e <|ai @oS_e <|ai @oF_e <|ai @oB_e <|ai @oC_e <|ai @oI_e <|ai @oN_e <|ai @oP_e <|ai @oQ_e <|ai @oR_e <|ai @oU_e <|ai @opEv.eq_1 <|ai @opEv.eq_2 <|ai @opEv.eq_3 <|ai @opEv.eq_4 <|ai @opEv.eq_5 <|ai @opEv.eq_6 <|ai @opEv.eq_7 <|ai @opEv.eq_8 <|ai @opEv.eq_9 <|ai @opEv.eq_10 <|ai @opEv.eq_11 <|ai @opEv.eq_12 <|ai @opEv.eq_13 <|ai @opEv.eq_14 <|ai @opEv.eq_15 <|ai @opEv.eq_16 <|ai @opEv.eq_17 <|ai @opEv.eq_18 <|ai @opEv.eq_19 <|ai @opEv.eq_20 <|ai @opEv.eq_21 <|ai @opEv.eq_22 <|ai @opEv.eq_23 <|ai @opEv.eq_24 <|ai @opEv.eq_25 <|ai @opEv.eq_26 <|ai @opEv.eq_27 <|ai @opEv.eq_28 <|ai @opEv.eq_29 <|ai @opEv.eq_30 <|ai @opEv.eq_31 <|ai @opEv.eq_32 <|ai @opEv.eq_33 <|ai @opEv.eq_34 <|ai @opEv.eq_35 <|ai @opEv.eq_36 <|ai @opEv.eq_37 <|ai @fillV.eq_1 <|ai @fillV.eq_2 <|ai @mapO.eq_1 <|ai @mapO.eq_2 <|ai @mapS.eq_1 <| @mapS.eq_2)))
theorem R0:type_of%(ai R1 RE):=ai R1 RE
def F43(a0:List Int)(a1:Int):Option Int:=
 (chk (a1 - (a0.length:Int))).bind fun x1=>
 if x1 < 0 then
  some (-1)
 else
  some x1
theorem s43(a0:List Int)(a1:Int){r:Int}(hF:F43 a0 a1=some r):ans A 43 [V.isl (a0.map Enc.enc),V.int .i64 a1]=some (Enc.enc r):=by
 refine ans_of (f:=p43) rfl rfl rfl fun e hl he=>?_;have h0_0:e.at 0=V.isl (a0.map Enc.enc):=he 0 _ rfl;have h1_0:e.at 1=V.int .i64 a1:=he 1 _ rfl;have hl_0:e.length=12:=hl;clear he hl;have h_0:=ai hl_0 (ai h0_0 h1_0);show W A b43 e ⟨[],0⟩ _;unfold F43 at hF;obtain⟨x1,gx1,hF⟩:=bS hF;have wx1:=chk_w gx1;by_cases c2:x1 < 0
 ·rw[if_pos c2]at hF
  cases hF;simp only[simprocAttr,R0,b43,h_0,wx1,eq_true c2];exact fin_ret (by simp only[simprocAttr,R0,fn_out,p43,Rs.ev,take_len_self,h_0,wx1,eq_true c2])
 ·rw[if_neg c2]at hF
  cases hF;simp only[simprocAttr,R0,b43,h_0,wx1,eq_false c2];exact fin_ret (by simp only[simprocAttr,R0,fn_out,p43,Rs.ev,take_len_self,h_0,wx1,eq_false c2])
def F44_1_B(a0:List (List Int))(v5_1:Int)(v1_1:Int):Option ((Int)⊕((Int)⊕Int)):=
 (getI a0 v5_1).bind fun x6=>
(F43 x6 v1_1).bind fun x8=>
if x8 < 0 then
 some (.inr (.inr (-1)))
else
 some (.inl x8)
def F44_1_D(a0:List (List Int))(v5_1:Int)(v1_1:Int):Option ((Int)⊕Int):=
 some (.inl v1_1)
def F44(a0:List (List Int))(a1:Int):Option Int:=
 (chk (a1 - (a0.length:Int))).bind fun x1=>
 if x1 < 0 then
  some (-1)
 else
  (forR 0 (a0.length:Int) (F44_1_B a0) (F44_1_D a0) x1).bind fun t11=> match t11 with
   | .inl zv1_1=>
    some zv1_1
   | .inr r12=> some r12
def I44_1(a0:List (List Int))(v5_1:Int)(v1_1:Int)(e:Env)(h:Heap):Prop:=
 ∃k4:Nat,h=⟨[],k4⟩∧e.length=27∧e.at 0=V.isl (a0.map Enc.enc)∧e.at 1=V.int .i64 v1_1∧e.at 5=V.int .i64 v5_1
def P44_1(a0:List (List Int))(t:(Int)⊕Int)(x:Ex)(e:Env)(h:Heap):Prop:=
 match t with
 | .inl zv1_1=> x= .normal∧∃k4:Nat,h=⟨[],k4⟩∧e.length=27∧e.at 1=V.int .i64 zv1_1
 | .inr r=> x= .ret∧Fin p44 (Enc.enc r) .ret e h
theorem l44_1(a0:List (List Int)){lo:Int}{s:Int}{t:(Int)⊕Int}(hF:forR lo (a0.length:Int) (F44_1_B a0) (F44_1_D a0) s=some t){e:Env}{h:Heap}(hI:I44_1 a0 lo s e h):W A c44_1 e h (P44_1 a0 t):=by
 show W A (.block 0 (.loop false b44_1)) e h _;rw[W_block];refine W_forR hF 0 (by obtain⟨_,rfl,_⟩:=hI; rfl) (I44_1 a0) hI ?_ ?_
 ·rintro v5_1 v1_1 e h ⟨k4,rfl,h_3⟩ hlt hw o ho
  unfold F44_1_B at ho;obtain⟨x6,gx6,ho⟩:=bS ho;obtain⟨w7a,w7b⟩:=getI_w gx6;obtain⟨x8,gx8,ho⟩:=bS ho;have w9:ans A 43 [V.isl (x6.map Enc.enc),V.int .i64 v1_1]=some (V.int .i64 x8):=s43 x6 v1_1 gx8;by_cases c10:x8 < 0
  ·rw[if_pos c10]at ho
   cases ho;simp only[simprocAttr,R0,b44_1,h_3,eq_true hlt,hw,w7a,w7b,w9,eq_true c10];intro ht; subst ht;simp only[simprocAttr,RR,RB];exact ai rfl (fin_ret (by simp only[simprocAttr,R0,fn_out,p44,Rs.ev,take_len_self,h_3,eq_true hlt,hw,w7a,w7b,w9,eq_true c10]))
  ·rw[if_neg c10]at ho
   cases ho;simp only[simprocAttr,R0,b44_1,h_3,eq_true hlt,hw,w7a,w7b,w9,eq_false c10];refine ai rfl (ei _ (ai rfl ?_));simp only[simprocAttr,R0,h_3,eq_true hlt,hw,w7a,w7b,w9,eq_false c10]
 ·rintro v5_1 v1_1 e h ⟨k4,rfl,h_3⟩ hge t1 ho
  unfold F44_1_D at ho;cases ho;simp only[simprocAttr,R0,b44_1,h_3,eq_false hge];intro ht; subst ht;refine ai rfl (ei _ (ai rfl ?_));simp only[simprocAttr,R0,h_3,eq_false hge]
theorem s44(a0:List (List Int))(a1:Int){r:Int}(hF:F44 a0 a1=some r):ans A 44 [V.isl (a0.map Enc.enc),V.int .i64 a1]=some (Enc.enc r):=by
 refine ans_of (f:=p44) rfl rfl rfl fun e hl he=>?_;have h0_0:e.at 0=V.isl (a0.map Enc.enc):=he 0 _ rfl;have h1_0:e.at 1=V.int .i64 a1:=he 1 _ rfl;have hl_0:e.length=27:=hl;clear he hl;have h_0:=ai hl_0 (ai h0_0 h1_0);show W A b44 e ⟨[],0⟩ _;unfold F44 at hF;obtain⟨x1,gx1,hF⟩:=bS hF;have wx1:=chk_w gx1;by_cases c2:x1 < 0
 ·rw[if_pos c2]at hF
  cases hF;simp only[simprocAttr,R0,b44,h_0,wx1,eq_true c2];exact fin_ret (by simp only[simprocAttr,R0,fn_out,p44,Rs.ev,take_len_self,h_0,wx1,eq_true c2])
 ·rw[if_neg c2]at hF
  obtain⟨t11,gt11,hF⟩:=bS hF;rcases t11 with zv1_1|r12
  ·dsimp only at hF
   simp only[simprocAttr,R0,b44,h_0,wx1,eq_false c2];refine W.mono (l44_1 a0 gt11 (ei _ (ai rfl ?_))) ?_
   ·simp only[simprocAttr,R0,h_0,wx1,eq_false c2]
   rintro _ e _ ⟨rfl,k4,rfl,h_5⟩;cases hF;simp only[simprocAttr,R0,h_5,eq_false c2];exact fin_ret (by simp only[simprocAttr,R0,fn_out,p44,Rs.ev,take_len_self,h_5,eq_false c2])
  ·dsimp only at hF
   cases hF;simp only[simprocAttr,R0,b44,h_0,wx1,eq_false c2];refine W.mono (l44_1 a0 gt11 (ei _ (ai rfl ?_))) ?_
   ·simp only[simprocAttr,R0,h_0,wx1,eq_false c2]
   rintro _ e h ⟨rfl,hq⟩;simp only[simprocAttr,RR,RB];exact hq
def F11_1_B(a0:List (List (List Int)))(v5_1:Int)(v1_1:Int):Option ((Int)⊕((Int)⊕Int)):=
 (getI a0 v5_1).bind fun x6=>
(F44 x6 v1_1).bind fun x8=>
if x8 < 0 then
 some (.inr (.inr (-1)))
else
 some (.inl x8)
def F11_1_D(a0:List (List (List Int)))(v5_1:Int)(v1_1:Int):Option ((Int)⊕Int):=
 some (.inl v1_1)
def F11(a0:List (List (List Int)))(a1:Int):Option Int:=
 (chk (a1 - (a0.length:Int))).bind fun x1=>
 if x1 < 0 then
  some (-1)
 else
  (forR 0 (a0.length:Int) (F11_1_B a0) (F11_1_D a0) x1).bind fun t11=> match t11 with
   | .inl zv1_1=>
    some zv1_1
   | .inr r12=> some r12
def I11_1(a0:List (List (List Int)))(v5_1:Int)(v1_1:Int)(e:Env)(h:Heap):Prop:=
 ∃k4:Nat,h=⟨[],k4⟩∧e.length=27∧e.at 0=V.isl (a0.map Enc.enc)∧e.at 1=V.int .i64 v1_1∧e.at 5=V.int .i64 v5_1
def P11_1(a0:List (List (List Int)))(t:(Int)⊕Int)(x:Ex)(e:Env)(h:Heap):Prop:=
 match t with
 | .inl zv1_1=> x= .normal∧∃k4:Nat,h=⟨[],k4⟩∧e.length=27∧e.at 1=V.int .i64 zv1_1
 | .inr r=> x= .ret∧Fin p11 (Enc.enc r) .ret e h
theorem l11_1(a0:List (List (List Int))){lo:Int}{s:Int}{t:(Int)⊕Int}(hF:forR lo (a0.length:Int) (F11_1_B a0) (F11_1_D a0) s=some t){e:Env}{h:Heap}(hI:I11_1 a0 lo s e h):W A c11_1 e h (P11_1 a0 t):=by
 show W A (.block 0 (.loop false b11_1)) e h _;rw[W_block];refine W_forR hF 0 (by obtain⟨_,rfl,_⟩:=hI; rfl) (I11_1 a0) hI ?_ ?_
 ·rintro v5_1 v1_1 e h ⟨k4,rfl,h_3⟩ hlt hw o ho
  unfold F11_1_B at ho;obtain⟨x6,gx6,ho⟩:=bS ho;obtain⟨w7a,w7b⟩:=getI_w gx6;obtain⟨x8,gx8,ho⟩:=bS ho;have w9:ans A 44 [V.isl (x6.map Enc.enc),V.int .i64 v1_1]=some (V.int .i64 x8):=s44 x6 v1_1 gx8;by_cases c10:x8 < 0
  ·rw[if_pos c10]at ho
   cases ho;simp only[simprocAttr,R0,b11_1,h_3,eq_true hlt,hw,w7a,w7b,w9,eq_true c10];intro ht; subst ht;simp only[simprocAttr,RR,RB];exact ai rfl (fin_ret (by simp only[simprocAttr,R0,fn_out,p11,Rs.ev,take_len_self,h_3,eq_true hlt,hw,w7a,w7b,w9,eq_true c10]))
  ·rw[if_neg c10]at ho
   cases ho;simp only[simprocAttr,R0,b11_1,h_3,eq_true hlt,hw,w7a,w7b,w9,eq_false c10];refine ai rfl (ei _ (ai rfl ?_));simp only[simprocAttr,R0,h_3,eq_true hlt,hw,w7a,w7b,w9,eq_false c10]
 ·rintro v5_1 v1_1 e h ⟨k4,rfl,h_3⟩ hge t1 ho
  unfold F11_1_D at ho;cases ho;simp only[simprocAttr,R0,b11_1,h_3,eq_false hge];intro ht; subst ht;refine ai rfl (ei _ (ai rfl ?_));simp only[simprocAttr,R0,h_3,eq_false hge]
theorem s11(a0:List (List (List Int)))(a1:Int){r:Int}(hF:F11 a0 a1=some r):ans A 11 [V.isl (a0.map Enc.enc),V.int .i64 a1]=some (Enc.enc r):=by
 refine ans_of (f:=p11) rfl rfl rfl fun e hl he=>?_;have h0_0:e.at 0=V.isl (a0.map Enc.enc):=he 0 _ rfl;have h1_0:e.at 1=V.int .i64 a1:=he 1 _ rfl;have hl_0:e.length=27:=hl;clear he hl;have h_0:=ai hl_0 (ai h0_0 h1_0);show W A b11 e ⟨[],0⟩ _;unfold F11 at hF;obtain⟨x1,gx1,hF⟩:=bS hF;have wx1:=chk_w gx1;by_cases c2:x1 < 0
 ·rw[if_pos c2]at hF
  cases hF;simp only[simprocAttr,R0,b11,h_0,wx1,eq_true c2];exact fin_ret (by simp only[simprocAttr,R0,fn_out,p11,Rs.ev,take_len_self,h_0,wx1,eq_true c2])
 ·rw[if_neg c2]at hF
  obtain⟨t11,gt11,hF⟩:=bS hF;rcases t11 with zv1_1|r12
  ·dsimp only at hF
   simp only[simprocAttr,R0,b11,h_0,wx1,eq_false c2];refine W.mono (l11_1 a0 gt11 (ei _ (ai rfl ?_))) ?_
   ·simp only[simprocAttr,R0,h_0,wx1,eq_false c2]
   rintro _ e _ ⟨rfl,k4,rfl,h_5⟩;cases hF;simp only[simprocAttr,R0,h_5,eq_false c2];exact fin_ret (by simp only[simprocAttr,R0,fn_out,p11,Rs.ev,take_len_self,h_5,eq_false c2])
  ·dsimp only at hF
   cases hF;simp only[simprocAttr,R0,b11,h_0,wx1,eq_false c2];refine W.mono (l11_1 a0 gt11 (ei _ (ai rfl ?_))) ?_
   ·simp only[simprocAttr,R0,h_0,wx1,eq_false c2]
   rintro _ e h ⟨rfl,hq⟩;simp only[simprocAttr,RR,RB];exact hq
def F10(a0:GComplex)(a1:Int):Option Int:=
 (F43 a0.Dims a1).bind fun x1=>
 if x1 < 0 then
  some (-1)
 else
  (F11 a0.Maps x1).bind fun x4=>
  if x4 < 0 then
   some (-1)
  else
   some x4
theorem s10(a0:GComplex)(a1:Int){r:Int}(hF:F10 a0 a1=some r):ans A 10 [(eC a0),V.int .i64 a1]=some (Enc.enc r):=by
 refine ans_of (f:=p10) rfl rfl rfl fun e hl he=>?_;have h0_0:e.at 0=(eC a0):=he 0 _ rfl;have h1_0:e.at 1=V.int .i64 a1:=he 1 _ rfl;have hl_0:e.length=18:=hl;clear he hl;have h_0:=ai hl_0 (ai h0_0 h1_0);show W A b10 e ⟨[],0⟩ _;unfold F10 at hF;obtain⟨x1,gx1,hF⟩:=bS hF;have w2:ans A 43 [V.isl (a0.Dims.map Enc.enc),V.int .i64 a1]=some (V.int .i64 x1):=s43 a0.Dims a1 gx1;by_cases c3:x1 < 0
 ·rw[if_pos c3]at hF
  cases hF;simp only[simprocAttr,R0,b10,h_0,w2,eq_true c3];exact fin_ret (by simp only[simprocAttr,R0,fn_out,p10,Rs.ev,take_len_self,h_0,w2,eq_true c3])
 ·rw[if_neg c3]at hF
  obtain⟨x4,gx4,hF⟩:=bS hF;have w5:ans A 11 [V.isl (a0.Maps.map Enc.enc),V.int .i64 x1]=some (V.int .i64 x4):=s11 a0.Maps x1 gx4;by_cases c6:x4 < 0
  ·rw[if_pos c6]at hF
   cases hF;simp only[simprocAttr,R0,b10,h_0,w2,eq_false c3,w5,eq_true c6];exact fin_ret (by simp only[simprocAttr,R0,fn_out,p10,Rs.ev,take_len_self,h_0,w2,eq_false c3,w5,eq_true c6])
  ·rw[if_neg c6]at hF
   cases hF;simp only[simprocAttr,R0,b10,h_0,w2,eq_false c3,w5,eq_false c6];exact fin_ret (by simp only[simprocAttr,R0,fn_out,p10,Rs.ev,take_len_self,h_0,w2,eq_false c3,w5,eq_false c6])
def F47_1_B(a0:List Int)(v4_1:Int)(o0_1:(List Int)):Option (((List Int))⊕((List Int))):=
 (getI a0 v4_1).bind fun x7=>
(getI o0_1 v4_1).bind fun x9=>
(setI o0_1 v4_1 x7).bind fun l11=>
some (.inl l11)
def F47_1_D(a0:List Int)(v4_1:Int)(o0_1:(List Int)):Option ((List Int)):=
 some o0_1
def F47(a0:List Int):Option (List Int):=
 (mkL 8 (a0.length:Int) 0).bind fun l1=>
 (forR 0 (a0.length:Int) (F47_1_B a0) (F47_1_D a0) l1).bind fun zo0_1=>
 some zo0_1
def I47_1(a0:List Int)(v4_1:Int)(o0_1:(List Int))(e:Env)(h:Heap):Prop:=
 ∃u4 k5:Nat,h=⟨[(u4,some (o0_1.map Enc.enc))],k5⟩∧e.length=22∧e.at 0=V.isl (a0.map Enc.enc)∧e.at 3=V.sl 0 u4 0 o0_1.length 1∧e.at 4=V.int .i64 v4_1
def P47_1(a0:List Int)(zo0_1:(List Int))(x:Ex)(e:Env)(h:Heap):Prop:=
 x= .normal∧∃u4 k5:Nat,h=⟨[(u4,some (zo0_1.map Enc.enc))],k5⟩∧e.length=22∧e.at 3=V.sl 0 u4 0 zo0_1.length 1
theorem l47_1(a0:List Int){lo:Int}{s:(List Int)}{t:(List Int)}(hF:forR lo (a0.length:Int) (F47_1_B a0) (F47_1_D a0) s=some t){e:Env}{h:Heap}(hI:I47_1 a0 lo s e h):W A c47_1 e h (P47_1 a0 t):=by
 show W A (.block 0 (.loop false b47_1)) e h _;rw[W_block];refine W_forR hF 1 (by obtain⟨_,_,rfl,_⟩:=hI; rfl) (I47_1 a0) hI ?_ ?_
 ·rintro v4_1 o0_1 e h ⟨u4,k5,rfl,h_3⟩ hlt hw o ho
  unfold F47_1_B at ho;obtain⟨x7,gx7,ho⟩:=bS ho;obtain⟨w8a,w8b⟩:=getI_w gx7;obtain⟨x9,gx9,ho⟩:=bS ho;obtain⟨w10a,w10b⟩:=getI_w gx9;have w10c:=getI_lt gx9;have w10d:List.drop (Int.toNat v4_1) (o0_1.map Enc.enc)=(V.int .i64 x9)::List.drop ((Int.toNat v4_1)+1) (o0_1.map Enc.enc):=drop_enc w10b;obtain⟨l11,gl11,ho⟩:=bS ho;obtain⟨w12a,w12b,w12c,w12d,w12e⟩:=setI_w gl11;replace w12e:List.take (Int.toNat v4_1) (o0_1.map Enc.enc)++[V.int .i64 x7]++List.drop (Int.toNat v4_1+1) (o0_1.map Enc.enc)=List.map Enc.enc l11:=w12e;cases ho;simp only[simprocAttr,R0,b47_1,h_3,eq_true hlt,hw,w8a,w8b,w10a,w10b,w10c,w10d,w12a,w12b,w12c,w12e];refine ai rfl (ei _ (ei _ (ai rfl ?_)));simp only[simprocAttr,R0,h_3,eq_true hlt,hw,w8a,w8b,w10a,w10b,w10c,w10d,w12a,w12b,w12c,w12e,w12d]
 ·rintro v4_1 o0_1 e h ⟨u4,k5,rfl,h_3⟩ hge t1 ho
  unfold F47_1_D at ho;cases ho;simp only[simprocAttr,R0,b47_1,h_3,eq_false hge];intro ht; subst ht;refine ai rfl (ei _ (ei _ (ai rfl ?_)));simp only[simprocAttr,R0,h_3,eq_false hge]
theorem t47(a0:List Int){r:List Int}(hF:F47 a0=some r):tans A 47 [1] [V.isl (a0.map Enc.enc)]=some (Enc.enc r):=by
 refine tans_of (f:=p47) rfl rfl rfl fun e hl he=>?_;have h0_0:e.at 0=V.isl (a0.map Enc.enc):=he 0 _ rfl;have hl_0:e.length=22:=hl;clear he hl;show W A b47 e ⟨[],0⟩ _;unfold F47 at hF;obtain⟨l1,gl1,hF⟩:=bS hF;obtain⟨w2a,w2b,w2c,w2d,w2e⟩:=mkL_w gl1;replace w2e:(List.replicate (Int.toNat (a0.length:Int)) [V.int .i64 0]).flatten=List.map Enc.enc l1:=w2e;obtain⟨zo0_1,gt13,hF⟩:=bS hF;simp only[simprocAttr, -Int.reduceNatCast',R0,b47,hl_0,h0_0,w2a,w2b,w2c,w2e];refine W.mono (l47_1 a0 gt13 (ei _ (ei _ (ai rfl ?_)))) ?_
 ·simp only[simprocAttr, -Int.reduceNatCast',R0,hl_0,h0_0,w2a,w2b,w2c,w2e,w2d]
 rintro _ e _ ⟨rfl,u4,k5,rfl,hl_6,h3_6⟩;have hE:=Option.some.inj hF; subst hE;simp only[simprocAttr, -Int.reduceNatCast',R0,hl_6,h3_6];exact tfin_ret (by simp only[simprocAttr, -Int.reduceNatCast',R0,fn_out,p47,Rs.ev,take_len_self,hl_6,h3_6,frzs (α:=Int) zo0_1,takes (α:=Int) zo0_1])
def F48_1_B(a0:List (List Int))(v4_1:Int)(o0_1:(List (List Int))):Option (((List (List Int)))⊕((List (List Int)))):=
 (getI a0 v4_1).bind fun x7=>
(F47 x7).bind fun x9=>
(getI o0_1 v4_1).bind fun x11=>
(setI o0_1 v4_1 x9).bind fun l13=>
some (.inl l13)
def F48_1_D(a0:List (List Int))(v4_1:Int)(o0_1:(List (List Int))):Option ((List (List Int))):=
 some o0_1
def F48(a0:List (List Int)):Option (List (List Int)):=
 (mkL 24 (a0.length:Int) ([]:List Int)).bind fun l1=>
 (forR 0 (a0.length:Int) (F48_1_B a0) (F48_1_D a0) l1).bind fun zo0_1=>
 some zo0_1
theorem d48(a0:List (List Int)){r:List (List Int)}(hF:F48 a0=some r):∃v h',res A 48 [V.isl (a0.map Enc.enc)] Heap.empty=some (v,h')∧∃K,Deep.rep h' v r K:=by
 refine res_dp (f:=p48) rfl rfl rfl fun e hl he=>?_;have h0_0:e.at 0=V.isl (a0.map Enc.enc):=he 0 _ rfl;have hl_0:e.length=23:=hl;clear he hl;show W A b48 e ⟨[],0⟩ _;unfold F48 at hF;obtain⟨l1,gl1,hF⟩:=bS hF;obtain⟨zo,gt,hF⟩:=bS hF;have hE:=Option.some.inj hF; subst hE;obtain⟨w1a,w1b,w1c,w1d⟩:=mkL_deep gl1;simp only[Int.toNat_natCast]at w1d;have w1e:(List.replicate (Int.toNat (a0.length:Int)) [V.nils]).flatten=List.replicate a0.length V.nils:=by rw[Int.toNat_natCast,List.flatten_replicate_singleton]
 subst w1d;simp only[simprocAttr, -Int.reduceNatCast',R1,b48,hl_0,h0_0,w1a,w1b,w1c,w1e,Int.toNat_natCast];show W A (.block 0 (.loop true b48_1)) _ _ _;rw[W_block];refine W_forR gt _ rfl (fun i l e h=>∃vs K,h.ents[0]? =some (0,some vs)∧reps h vs l K∧¬K 0∧l.length=a0.length∧e.length=23∧e.at 0=V.isl (a0.map Enc.enc)∧e.at 3=V.sl 0 0 0 a0.length 1∧e.at 4=V.int .i64 i) ?_ ?_ ?_
 ·refine⟨_,fun _=> False,rfl,by rw[List.flatten_replicate_singleton]; exact reps_nils _ _,fun x=> x,by simp,?_⟩
  simp only[simprocAttr, -Int.reduceNatCast',R1,hl_0,h0_0]
 ·rintro i l e ⟨E,c⟩ ⟨vs,K,g1,g2,g3,g4,hl_1,h0_1,h3_1,h4_1⟩ hlt hw o ho
  unfold F48_1_B at ho;obtain⟨x7,gx7,ho⟩:=bS ho;obtain⟨w6a,w6b⟩:=getI_w gx7;obtain⟨x9,gx9,ho⟩:=bS ho;have w8:=t47 x7 gx9;obtain⟨x11,gx11,ho⟩:=bS ho;obtain⟨l13,gl13,ho⟩:=bS ho;have sm:l13=l.set i.toNat x9:=setI_eq gl13;have hE:=Option.some.inj ho; subst hE;have hil:i.toNat < l.length:=by omega
  have hln:=g2.len;have hE0:0 < E.length:=(List.getElem?_eq_some_iff.1 g1).1;obtain⟨x,K1,K2,f1,f2,f3,f4,f5⟩:=g2.focus hil;have p0:∀y,(E++[y])[0]? =some (0,some vs):=fun y=>(List.getElem?_append_left hE0).trans g1;have hs:List.take i.toNat vs++[V.sl E.length c 0 x9.length 1]++List.drop (i.toNat+1) vs=vs.set i.toNat (V.sl E.length c 0 x9.length 1):=by
   rw[List.set_eq_take_append_cons_drop,if_pos (by omega)]; simp
  have hle:i.toNat+1≤vs.length:=by omega
  simp only[simprocAttr, -Int.reduceNatCast',R1,b48_1,hl_1,h0_1,h3_1,h4_1,eq_true hlt,hw,w6a,w6b,w8,callM_tans,thaw_one,p0,hs,hle];have r1:=f5 ⟨(E++[(c,some (x9.map Enc.enc))]).set 0 (0,some (vs.set i.toNat (V.sl E.length c 0 x9.length 1))),c+1⟩ (V.sl E.length c 0 x9.length 1) x9 (fun k=> k=E.length) (fun k=> k=E.length∨K2 k)
   (int_row ((set_ne (by omega)).trans (get_last _ _)) fun k=> Iff.rfl)
   (fun k q=> set_app_new (fun e=> g3 (e▸(f4 k).2 (.inr q))) (g2.bd ((f4 k).2 (.inr q))))
   (fun k q q2=> by have:=g2.bd ((f4 k).2 (.inr q2)); simp only at this; omega) (fun k=> Iff.rfl)
  refine ai rfl ⟨_,fun k=> k=E.length∨K2 k,set_app_key (by simp),by rw[sm]; exact r1,fun q=> q.elim (fun q=> by omega) (fun q=> g3 ((f4 0).2 (.inr q))),by rw[sm,List.length_set]; exact g4,?_⟩;simp only[simprocAttr, -Int.reduceNatCast',R1,hl_1,h0_1,h3_1,h4_1,hw]
 ·rintro i l e ⟨E,c⟩ ⟨vs,K,g1,g2,g3,g4,hl_1,h0_1,h3_1,h4_1⟩ hge t1 ho
  unfold F48_1_D at ho;have hE:=Option.some.inj ho; subst hE;simp only[simprocAttr, -Int.reduceNatCast',R1,b48_1,hl_1,h0_1,h3_1,h4_1,eq_false hge];intro ht; subst ht;refine ai (fun _=> trivial) ⟨_,by simp only[simprocAttr, -Int.reduceNatCast',R1,fn_out,p48,Rs.ev,hl_1]; rfl,fun k=> k=0∨K k,.inr ⟨0,0,vs,K,by rw[g4],g1,g2,g3,fun k=> Iff.rfl⟩⟩
theorem x48(a0:List (List Int)){r:List (List Int)}(hF:F48 a0=some r):tans A 48 [1,1] [V.isl (a0.map Enc.enc)]=some (Enc.enc r):=tans_of_deep (α:=List (List Int)) (by decide) (d48 a0 hF)
def F13_1_B(a0:List (List (List Int)))(v4_1:Int)(o0_1:(List (List (List Int)))):Option (((List (List (List Int))))⊕((List (List (List Int))))):=
 (getI a0 v4_1).bind fun x7=>
(F48 x7).bind fun x9=>
(getI o0_1 v4_1).bind fun x11=>
(setI o0_1 v4_1 x9).bind fun l13=>
some (.inl l13)
def F13_1_D(a0:List (List (List Int)))(v4_1:Int)(o0_1:(List (List (List Int)))):Option ((List (List (List Int)))):=
 some o0_1
def F13(a0:List (List (List Int))):Option (List (List (List Int))):=
 (mkL 24 (a0.length:Int) ([]:List (List Int))).bind fun l1=>
 (forR 0 (a0.length:Int) (F13_1_B a0) (F13_1_D a0) l1).bind fun zo0_1=>
 some zo0_1
theorem d13(a0:List (List (List Int))){r:List (List (List Int))}(hF:F13 a0=some r):∃v h',res A 13 [V.isl (a0.map Enc.enc)] Heap.empty=some (v,h')∧∃K,Deep.rep h' v r K:=by
 refine res_dp (f:=p13) rfl rfl rfl fun e hl he=>?_;have h0_0:e.at 0=V.isl (a0.map Enc.enc):=he 0 _ rfl;have hl_0:e.length=23:=hl;clear he hl;show W A b13 e ⟨[],0⟩ _;unfold F13 at hF;obtain⟨l1,gl1,hF⟩:=bS hF;obtain⟨zo,gt,hF⟩:=bS hF;have hE:=Option.some.inj hF; subst hE;obtain⟨w1a,w1b,w1c,w1d⟩:=mkL_deep gl1;simp only[Int.toNat_natCast]at w1d;have w1e:(List.replicate (Int.toNat (a0.length:Int)) [V.nils]).flatten=List.replicate a0.length V.nils:=by rw[Int.toNat_natCast,List.flatten_replicate_singleton]
 subst w1d;simp only[simprocAttr, -Int.reduceNatCast',R1,b13,hl_0,h0_0,w1a,w1b,w1c,w1e,Int.toNat_natCast];show W A (.block 0 (.loop true b13_1)) _ _ _;rw[W_block];refine W_forR gt _ rfl (fun i l e h=>∃vs K,h.ents[0]? =some (0,some vs)∧reps h vs l K∧¬K 0∧l.length=a0.length∧e.length=23∧e.at 0=V.isl (a0.map Enc.enc)∧e.at 3=V.sl 0 0 0 a0.length 1∧e.at 4=V.int .i64 i) ?_ ?_ ?_
 ·refine⟨_,fun _=> False,rfl,by rw[List.flatten_replicate_singleton]; exact reps_nils _ _,fun x=> x,by simp,?_⟩
  simp only[simprocAttr, -Int.reduceNatCast',R1,hl_0,h0_0]
 ·rintro i l e ⟨E,c⟩ ⟨vs,K,g1,g2,g3,g4,hl_1,h0_1,h3_1,h4_1⟩ hlt hw o ho
  unfold F13_1_B at ho;obtain⟨x7,gx7,ho⟩:=bS ho;obtain⟨w6a,w6b⟩:=getI_w gx7;obtain⟨x9,gx9,ho⟩:=bS ho;have w8:=x48 x7 gx9;obtain⟨x11,gx11,ho⟩:=bS ho;obtain⟨l13,gl13,ho⟩:=bS ho;have sm:l13=l.set i.toNat x9:=setI_eq gl13;have hE:=Option.some.inj ho; subst hE;have hil:i.toNat < l.length:=by omega
  have hln:=g2.len;have hE0:0 < E.length:=(List.getElem?_eq_some_iff.1 g1).1;obtain⟨x,K1,K2,f1,f2,f3,f4,f5⟩:=g2.focus hil;obtain⟨v,⟨E1,c1⟩,t1,t2,t3,t4⟩:=thaw_deep (α:=List (List Int)) (by decide) x9 ⟨E,c⟩;have t1':thaw 16 [1,1] (V.isl (x9.map Enc.enc)) ⟨E,c⟩=some (v,⟨E1,c1⟩):=t1;obtain⟨v1,v2⟩:=rep_one t2;simp only at t2 t3 t4 g1;have p0:E1[0]? =some (0,some vs):=(t4 0 hE0).trans g1;have hs:List.take i.toNat vs++[v]++List.drop (i.toNat+1) vs=vs.set i.toNat (v):=by
   rw[List.set_eq_take_append_cons_drop,if_pos (by omega)]; simp
  have hle:i.toNat+1≤vs.length:=by omega
  simp only[simprocAttr, -Int.reduceNatCast',R1,b13_1,hl_1,h0_1,h3_1,h4_1,eq_true hlt,hw,w6a,w6b,w8,callM_tans,t1',v1,v2,p0,hs,hle];have r1:=f5 ⟨E1.set 0 (0,some (vs.set i.toNat v)),c1⟩ v x9 (fun k=> E.length≤k∧k < E1.length) (fun k=>(E.length≤k∧k < E1.length)∨K2 k)
   (Deep.frame t2 fun k q=> set_ne (by omega))
   (fun k q=>(set_ne (E:=E1) (key:=0) (k:=k) (fun e:k=0=> g3 (e▸(f4 k).2 (.inr q)))).trans (t4 k (g2.bd ((f4 k).2 (.inr q)))))
   (fun k q q2=> by have:=g2.bd ((f4 k).2 (.inr q2)); simp only at this; omega) (fun k=> Iff.rfl)
  refine ai rfl ⟨_,fun k=>(E.length≤k∧k < E1.length)∨K2 k,set_app_key (by omega),by rw[sm]; exact r1,fun q=> q.elim (fun q=> by omega) (fun q=> g3 ((f4 0).2 (.inr q))),by rw[sm,List.length_set]; exact g4,?_⟩;simp only[simprocAttr, -Int.reduceNatCast',R1,hl_1,h0_1,h3_1,h4_1,hw]
 ·rintro i l e ⟨E,c⟩ ⟨vs,K,g1,g2,g3,g4,hl_1,h0_1,h3_1,h4_1⟩ hge t1 ho
  unfold F13_1_D at ho;have hE:=Option.some.inj ho; subst hE;simp only[simprocAttr, -Int.reduceNatCast',R1,b13_1,hl_1,h0_1,h3_1,h4_1,eq_false hge];intro ht; subst ht;refine ai (fun _=> trivial) ⟨_,by simp only[simprocAttr, -Int.reduceNatCast',R1,fn_out,p13,Rs.ev,hl_1]; rfl,fun k=> k=0∨K k,.inr ⟨0,0,vs,K,by rw[g4],g1,g2,g3,fun k=> Iff.rfl⟩⟩
theorem s13(a0:List (List (List Int))){r:List (List (List Int))}(hF:F13 a0=some r):ans A 13 [V.isl (a0.map Enc.enc)]=some (Enc.enc r):=ans_of_deep (by decide) (d13 a0 hF)
theorem x13(a0:List (List (List Int))){r:List (List (List Int))}(hF:F13 a0=some r):tans A 13 [1,1,1] [V.isl (a0.map Enc.enc)]=some (Enc.enc r):=tans_of_deep (α:=List (List (List Int))) (by decide) (d13 a0 hF)
def F12(a0:GComplex):Option GComplex:=
 (F47 a0.Dims).bind fun x1=>
 (F13 a0.Maps).bind fun x3=>
 some ⟨a0.Prime,x1,x3⟩
theorem d12(x:GComplex){r:GComplex}(hF:F12 x=some r):∃v h',res A 12 [(eC x)] Heap.empty=some (v,h')∧∃dv mv,∃K1 K2:Ks,v=V.agg [V.int .i64 r.Prime,dv,mv]∧Deep.rep h' dv r.Dims K1∧Deep.rep h' mv r.Maps K2∧∀k,K1 k→¬K2 k:=by
 refine res_dp (f:=p12) rfl rfl rfl fun e hl he=>?_;have h0_0:e.at 0=(eC x):=he 0 _ rfl;have hl_0:e.length=16:=hl;clear he hl;show W A b12 e ⟨[],0⟩ _;unfold F12 at hF;obtain⟨d,gd,hF⟩:=bS hF;have w1:=t47 x.Dims gd;obtain⟨ms,gm,hF⟩:=bS hF;have w2:=x13 x.Maps gm;cases hF;obtain⟨mv,⟨E1,c1⟩,t1,t2,t3,t4⟩:=thaw_deep (α:=List (List (List Int))) (by decide) ms ⟨[(0,none),(1,some [V.int .i64 0,V.nils,V.nils]),(2,some [V.int .i64 x.Prime,V.sl 3 3 0 d.length 1,V.nils]),(3,some (d.map Enc.enc))],4⟩;have t1':thaw 16 [1,1,1] (V.isl (ms.map Enc.enc)) ⟨[(0,none),(1,some [V.int .i64 0,V.nils,V.nils]),(2,some [V.int .i64 x.Prime,V.sl 3 3 0 d.length 1,V.nils]),(3,some (d.map Enc.enc))],4⟩=some (mv,⟨E1,c1⟩):=t1;obtain⟨v1,v2⟩:=rep_one t2;simp only[List.length_cons,List.length_nil,Nat.zero_add,Nat.reduceAdd]at t2 t3 t4;have m1:E1[1]? =some (1,some [V.int .i64 0,V.nils,V.nils]):=t4 1 (by decide);have m2:E1[2]? =some (2,some [V.int .i64 x.Prime,V.sl 3 3 0 d.length 1,V.nils]):=t4 2 (by decide);have m3:E1[3]? =some (3,some (d.map Enc.enc)):=t4 3 (by decide);have n1:∀z,(E1.set 2 z)[1]? =_:=fun z=>(set_ne (by decide)).trans m1;have n2:∀z,(E1.set 2 z)[2]? =some z:=fun z=> set_app_key (by omega);simp only[simprocAttr,R0,b12,hl_0,h0_0,w1,w2,callM_tans,thaw_one,t1',v1,v2,m1,m2,n1,n2];refine ai (fun _=> trivial) ⟨_,by simp only[simprocAttr,R0,fn_out,p12,Rs.ev,hl_0,set_app_key (show 1 < (E1.set 2 (2,some [V.int .i64 x.Prime,V.sl 3 3 0 d.length 1,mv])).length by simp; omega)],V.sl 3 3 0 d.length 1,mv,fun k=> k=3,_,rfl,int_row ((set_ne (by decide)).trans ((set_ne (by decide)).trans m3)) (fun k=> Iff.rfl),Deep.frame t2 fun k q=>(set_ne (by omega)).trans (set_ne (by omega)),fun k q=> by omega⟩
theorem s12(x:GComplex){r:GComplex}(hF:F12 x=some r):ans A 12 [(eC x)]=some (Enc.enc r):=by
 obtain⟨v,h',h1,dv,mv,K1,K2,rfl,h2,h3,h4⟩:=d12 x hF;exact ans_agg2 h1 h2 h3
theorem x12(x:GComplex){r:GComplex}(hF:F12 x=some r):tans A 12 [1,1,1] [(eC x)]=some ((eC r)):=by
 obtain⟨v,h',h1,dv,mv,K1,K2,rfl,h2,h3,h4⟩:=d12 x hF;exact tans_agg2 h1 h2 h3 h4
def F30_1_B(a0:List Int)(a1:List Int)(v5_1:Int)(s:Unit):Option ((Unit)⊕((Unit)⊕Bool)):=
 (getI a0 v5_1).bind fun x5=>
(getI a1 v5_1).bind fun x7=>
if x5=x7 then
 some (.inl ())
else
 some (.inr (.inr false))
def F30_1_D(a0:List Int)(a1:List Int)(v5_1:Int)(s:Unit):Option ((Unit)⊕Bool):=
 some (.inl ())
def F30(a0:List Int)(a1:List Int):Option Bool:=
 if(a0.length:Int)=(a1.length:Int)then
  (forR 0 (a0.length:Int) (F30_1_B a0 a1) (F30_1_D a0 a1) ()).bind fun t10=> match t10 with
   | .inl _=>
    some true
   | .inr r11=> some r11
 else
  some false
def I30_1(a0:List Int)(a1:List Int)(v5_1:Int)(s:Unit)(e:Env)(h:Heap):Prop:=
 ∃k3:Nat,h=⟨[],k3⟩∧e.length=26∧e.at 0=V.isl (a0.map Enc.enc)∧e.at 1=V.isl (a1.map Enc.enc)∧e.at 5=V.int .i64 v5_1
def P30_1(a0:List Int)(a1:List Int)(t:(Unit)⊕Bool)(x:Ex)(e:Env)(h:Heap):Prop:=
 match t with
 | .inl _=> x= .normal∧∃k3:Nat,h=⟨[],k3⟩∧e.length=26
 | .inr r=> x= .ret∧Fin p30 (Enc.enc r) .ret e h
theorem l30_1(a0:List Int)(a1:List Int){lo:Int}{s:Unit}{t:(Unit)⊕Bool}(hF:forR lo (a0.length:Int) (F30_1_B a0 a1) (F30_1_D a0 a1) s=some t){e:Env}{h:Heap}(hI:I30_1 a0 a1 lo s e h):W A c30_1 e h (P30_1 a0 a1 t):=by
 show W A (.block 0 (.loop false b30_1)) e h _;rw[W_block];refine W_forR hF 0 (by obtain⟨_,rfl,_⟩:=hI; rfl) (I30_1 a0 a1) hI ?_ ?_
 ·rintro v5_1 _ e h ⟨k3,rfl,h_2⟩ hlt hw o ho
  unfold F30_1_B at ho;obtain⟨x5,gx5,ho⟩:=bS ho;obtain⟨w6a,w6b⟩:=getI_w gx5;obtain⟨x7,gx7,ho⟩:=bS ho;obtain⟨w8a,w8b⟩:=getI_w gx7;by_cases c9:x5=x7
  ·rw[if_pos c9]at ho
   cases ho;simp only[simprocAttr,R0,b30_1,h_2,eq_true hlt,hw,w6a,w6b,w8a,w8b,eq_true c9];refine ai rfl (ei _ (ai rfl ?_));simp only[simprocAttr,R0,h_2,eq_true hlt,hw,w6a,w6b,w8a,w8b,eq_true c9]
  ·rw[if_neg c9]at ho
   cases ho;simp only[simprocAttr,R0,b30_1,h_2,eq_true hlt,hw,w6a,w6b,w8a,w8b,eq_false c9];intro ht; subst ht;simp only[simprocAttr,RR,RB];exact ai rfl (fin_ret (by simp only[simprocAttr,R0,fn_out,p30,Rs.ev,take_len_self,h_2,eq_true hlt,hw,w6a,w6b,w8a,w8b,eq_false c9]))
 ·rintro v5_1 _ e h ⟨k3,rfl,h_2⟩ hge t1 ho
  unfold F30_1_D at ho;cases ho;simp only[simprocAttr,R0,b30_1,h_2,eq_false hge];intro ht; subst ht;refine ai rfl (ei _ (ai rfl ?_));simp only[simprocAttr,R0,h_2,eq_false hge]
theorem s30(a0:List Int)(a1:List Int){r:Bool}(hF:F30 a0 a1=some r):ans A 30 [V.isl (a0.map Enc.enc),V.isl (a1.map Enc.enc)]=some (Enc.enc r):=by
 refine ans_of (f:=p30) rfl rfl rfl fun e hl he=>?_;have h0_0:e.at 0=V.isl (a0.map Enc.enc):=he 0 _ rfl;have h1_0:e.at 1=V.isl (a1.map Enc.enc):=he 1 _ rfl;have hl_0:e.length=26:=hl;clear he hl;have h_0:=ai hl_0 (ai h0_0 h1_0);show W A b30 e ⟨[],0⟩ _;unfold F30 at hF;by_cases c1:(a0.length:Int)=(a1.length:Int)
 ·rw[if_pos c1]at hF
  obtain⟨t10,gt10,hF⟩:=bS hF;rcases t10 with _|r11
  ·dsimp only at hF
   simp only[simprocAttr,R0,b30,h_0,eq_true c1];refine W.mono (l30_1 a0 a1 gt10 (ei _ (ai rfl ?_))) ?_
   ·simp only[simprocAttr,R0,h_0,eq_true c1]
   rintro _ e _ ⟨rfl,k3,rfl,hl_4⟩;cases hF;simp only[simprocAttr,R0,hl_4,eq_true c1];exact fin_ret (by simp only[simprocAttr,R0,fn_out,p30,Rs.ev,take_len_self,hl_4,eq_true c1])
  ·dsimp only at hF
   cases hF;simp only[simprocAttr,R0,b30,h_0,eq_true c1];refine W.mono (l30_1 a0 a1 gt10 (ei _ (ai rfl ?_))) ?_
   ·simp only[simprocAttr,R0,h_0,eq_true c1]
   rintro _ e h ⟨rfl,hq⟩;simp only[simprocAttr,RR,RB];exact hq
 ·rw[if_neg c1]at hF
  cases hF;simp only[simprocAttr,R0,b30,h_0,eq_false c1];exact fin_ret (by simp only[simprocAttr,R0,fn_out,p30,Rs.ev,take_len_self,h_0,eq_false c1])
def F51_1_B(a0:List (List Int))(a1:List (List Int))(v5_1:Int)(s:Unit):Option ((Unit)⊕((Unit)⊕Bool)):=
 (getI a0 v5_1).bind fun x5=>
(getI a1 v5_1).bind fun x7=>
(F30 x5 x7).bind fun x9=>
if x9=true then
 some (.inl ())
else
 some (.inr (.inr false))
def F51_1_D(a0:List (List Int))(a1:List (List Int))(v5_1:Int)(s:Unit):Option ((Unit)⊕Bool):=
 some (.inl ())
def F51(a0:List (List Int))(a1:List (List Int)):Option Bool:=
 if(a0.length:Int)=(a1.length:Int)then
  (forR 0 (a0.length:Int) (F51_1_B a0 a1) (F51_1_D a0 a1) ()).bind fun t11=> match t11 with
   | .inl _=>
    some true
   | .inr r12=> some r12
 else
  some false
def I51_1(a0:List (List Int))(a1:List (List Int))(v5_1:Int)(s:Unit)(e:Env)(h:Heap):Prop:=
 ∃k3:Nat,h=⟨[],k3⟩∧e.length=27∧e.at 0=V.isl (a0.map Enc.enc)∧e.at 1=V.isl (a1.map Enc.enc)∧e.at 5=V.int .i64 v5_1
def P51_1(a0:List (List Int))(a1:List (List Int))(t:(Unit)⊕Bool)(x:Ex)(e:Env)(h:Heap):Prop:=
 match t with
 | .inl _=> x= .normal∧∃k3:Nat,h=⟨[],k3⟩∧e.length=27
 | .inr r=> x= .ret∧Fin p51 (Enc.enc r) .ret e h
theorem l51_1(a0:List (List Int))(a1:List (List Int)){lo:Int}{s:Unit}{t:(Unit)⊕Bool}(hF:forR lo (a0.length:Int) (F51_1_B a0 a1) (F51_1_D a0 a1) s=some t){e:Env}{h:Heap}(hI:I51_1 a0 a1 lo s e h):W A c51_1 e h (P51_1 a0 a1 t):=by
 show W A (.block 0 (.loop false b51_1)) e h _;rw[W_block];refine W_forR hF 0 (by obtain⟨_,rfl,_⟩:=hI; rfl) (I51_1 a0 a1) hI ?_ ?_
 ·rintro v5_1 _ e h ⟨k3,rfl,h_2⟩ hlt hw o ho
  unfold F51_1_B at ho;obtain⟨x5,gx5,ho⟩:=bS ho;obtain⟨w6a,w6b⟩:=getI_w gx5;obtain⟨x7,gx7,ho⟩:=bS ho;obtain⟨w8a,w8b⟩:=getI_w gx7;obtain⟨x9,gx9,ho⟩:=bS ho;have w10:ans A 30 [V.isl (x5.map Enc.enc),V.isl (x7.map Enc.enc)]=some (V.bool x9):=s30 x5 x7 gx9;cases x9 with
  |true=>
   rw[if_pos rfl]at ho;cases ho;simp only[simprocAttr,R0,b51_1,h_2,eq_true hlt,hw,w6a,w6b,w8a,w8b,w10];refine ai rfl (ei _ (ai rfl ?_));simp only[simprocAttr,R0,h_2,eq_true hlt,hw,w6a,w6b,w8a,w8b,w10]
  |false=>
   rw[if_neg Bool.false_ne_true]at ho;cases ho;simp only[simprocAttr,R0,b51_1,h_2,eq_true hlt,hw,w6a,w6b,w8a,w8b,w10];intro ht; subst ht;simp only[simprocAttr,RR,RB];exact ai rfl (fin_ret (by simp only[simprocAttr,R0,fn_out,p51,Rs.ev,take_len_self,h_2,eq_true hlt,hw,w6a,w6b,w8a,w8b,w10]))
 ·rintro v5_1 _ e h ⟨k3,rfl,h_2⟩ hge t1 ho
  unfold F51_1_D at ho;cases ho;simp only[simprocAttr,R0,b51_1,h_2,eq_false hge];intro ht; subst ht;refine ai rfl (ei _ (ai rfl ?_));simp only[simprocAttr,R0,h_2,eq_false hge]
theorem s51(a0:List (List Int))(a1:List (List Int)){r:Bool}(hF:F51 a0 a1=some r):ans A 51 [V.isl (a0.map Enc.enc),V.isl (a1.map Enc.enc)]=some (Enc.enc r):=by
 refine ans_of (f:=p51) rfl rfl rfl fun e hl he=>?_;have h0_0:e.at 0=V.isl (a0.map Enc.enc):=he 0 _ rfl;have h1_0:e.at 1=V.isl (a1.map Enc.enc):=he 1 _ rfl;have hl_0:e.length=27:=hl;clear he hl;have h_0:=ai hl_0 (ai h0_0 h1_0);show W A b51 e ⟨[],0⟩ _;unfold F51 at hF;by_cases c1:(a0.length:Int)=(a1.length:Int)
 ·rw[if_pos c1]at hF
  obtain⟨t11,gt11,hF⟩:=bS hF;rcases t11 with _|r12
  ·dsimp only at hF
   simp only[simprocAttr,R0,b51,h_0,eq_true c1];refine W.mono (l51_1 a0 a1 gt11 (ei _ (ai rfl ?_))) ?_
   ·simp only[simprocAttr,R0,h_0,eq_true c1]
   rintro _ e _ ⟨rfl,k3,rfl,hl_4⟩;cases hF;simp only[simprocAttr,R0,hl_4,eq_true c1];exact fin_ret (by simp only[simprocAttr,R0,fn_out,p51,Rs.ev,take_len_self,hl_4,eq_true c1])
  ·dsimp only at hF
   cases hF;simp only[simprocAttr,R0,b51,h_0,eq_true c1];refine W.mono (l51_1 a0 a1 gt11 (ei _ (ai rfl ?_))) ?_
   ·simp only[simprocAttr,R0,h_0,eq_true c1]
   rintro _ e h ⟨rfl,hq⟩;simp only[simprocAttr,RR,RB];exact hq
 ·rw[if_neg c1]at hF
  cases hF;simp only[simprocAttr,R0,b51,h_0,eq_false c1];exact fin_ret (by simp only[simprocAttr,R0,fn_out,p51,Rs.ev,take_len_self,h_0,eq_false c1])
def F17_1_B(a0:List (List (List Int)))(a1:List (List (List Int)))(v5_1:Int)(s:Unit):Option ((Unit)⊕((Unit)⊕Bool)):=
 (getI a0 v5_1).bind fun x5=>
(getI a1 v5_1).bind fun x7=>
(F51 x5 x7).bind fun x9=>
if x9=true then
 some (.inl ())
else
 some (.inr (.inr false))
def F17_1_D(a0:List (List (List Int)))(a1:List (List (List Int)))(v5_1:Int)(s:Unit):Option ((Unit)⊕Bool):=
 some (.inl ())
def F17(a0:List (List (List Int)))(a1:List (List (List Int))):Option Bool:=
 if(a0.length:Int)=(a1.length:Int)then
  (forR 0 (a0.length:Int) (F17_1_B a0 a1) (F17_1_D a0 a1) ()).bind fun t11=> match t11 with
   | .inl _=>
    some true
   | .inr r12=> some r12
 else
  some false
def I17_1(a0:List (List (List Int)))(a1:List (List (List Int)))(v5_1:Int)(s:Unit)(e:Env)(h:Heap):Prop:=
 ∃k3:Nat,h=⟨[],k3⟩∧e.length=27∧e.at 0=V.isl (a0.map Enc.enc)∧e.at 1=V.isl (a1.map Enc.enc)∧e.at 5=V.int .i64 v5_1
def P17_1(a0:List (List (List Int)))(a1:List (List (List Int)))(t:(Unit)⊕Bool)(x:Ex)(e:Env)(h:Heap):Prop:=
 match t with
 | .inl _=> x= .normal∧∃k3:Nat,h=⟨[],k3⟩∧e.length=27
 | .inr r=> x= .ret∧Fin p17 (Enc.enc r) .ret e h
theorem l17_1(a0:List (List (List Int)))(a1:List (List (List Int))){lo:Int}{s:Unit}{t:(Unit)⊕Bool}(hF:forR lo (a0.length:Int) (F17_1_B a0 a1) (F17_1_D a0 a1) s=some t){e:Env}{h:Heap}(hI:I17_1 a0 a1 lo s e h):W A c17_1 e h (P17_1 a0 a1 t):=by
 show W A (.block 0 (.loop false b17_1)) e h _;rw[W_block];refine W_forR hF 0 (by obtain⟨_,rfl,_⟩:=hI; rfl) (I17_1 a0 a1) hI ?_ ?_
 ·rintro v5_1 _ e h ⟨k3,rfl,h_2⟩ hlt hw o ho
  unfold F17_1_B at ho;obtain⟨x5,gx5,ho⟩:=bS ho;obtain⟨w6a,w6b⟩:=getI_w gx5;obtain⟨x7,gx7,ho⟩:=bS ho;obtain⟨w8a,w8b⟩:=getI_w gx7;obtain⟨x9,gx9,ho⟩:=bS ho;have w10:ans A 51 [V.isl (x5.map Enc.enc),V.isl (x7.map Enc.enc)]=some (V.bool x9):=s51 x5 x7 gx9;cases x9 with
  |true=>
   rw[if_pos rfl]at ho;cases ho;simp only[simprocAttr,R0,b17_1,h_2,eq_true hlt,hw,w6a,w6b,w8a,w8b,w10];refine ai rfl (ei _ (ai rfl ?_));simp only[simprocAttr,R0,h_2,eq_true hlt,hw,w6a,w6b,w8a,w8b,w10]
  |false=>
   rw[if_neg Bool.false_ne_true]at ho;cases ho;simp only[simprocAttr,R0,b17_1,h_2,eq_true hlt,hw,w6a,w6b,w8a,w8b,w10];intro ht; subst ht;simp only[simprocAttr,RR,RB];exact ai rfl (fin_ret (by simp only[simprocAttr,R0,fn_out,p17,Rs.ev,take_len_self,h_2,eq_true hlt,hw,w6a,w6b,w8a,w8b,w10]))
 ·rintro v5_1 _ e h ⟨k3,rfl,h_2⟩ hge t1 ho
  unfold F17_1_D at ho;cases ho;simp only[simprocAttr,R0,b17_1,h_2,eq_false hge];intro ht; subst ht;refine ai rfl (ei _ (ai rfl ?_));simp only[simprocAttr,R0,h_2,eq_false hge]
theorem s17(a0:List (List (List Int)))(a1:List (List (List Int))){r:Bool}(hF:F17 a0 a1=some r):ans A 17 [V.isl (a0.map Enc.enc),V.isl (a1.map Enc.enc)]=some (Enc.enc r):=by
 refine ans_of (f:=p17) rfl rfl rfl fun e hl he=>?_;have h0_0:e.at 0=V.isl (a0.map Enc.enc):=he 0 _ rfl;have h1_0:e.at 1=V.isl (a1.map Enc.enc):=he 1 _ rfl;have hl_0:e.length=27:=hl;clear he hl;have h_0:=ai hl_0 (ai h0_0 h1_0);show W A b17 e ⟨[],0⟩ _;unfold F17 at hF;by_cases c1:(a0.length:Int)=(a1.length:Int)
 ·rw[if_pos c1]at hF
  obtain⟨t11,gt11,hF⟩:=bS hF;rcases t11 with _|r12
  ·dsimp only at hF
   simp only[simprocAttr,R0,b17,h_0,eq_true c1];refine W.mono (l17_1 a0 a1 gt11 (ei _ (ai rfl ?_))) ?_
   ·simp only[simprocAttr,R0,h_0,eq_true c1]
   rintro _ e _ ⟨rfl,k3,rfl,hl_4⟩;cases hF;simp only[simprocAttr,R0,hl_4,eq_true c1];exact fin_ret (by simp only[simprocAttr,R0,fn_out,p17,Rs.ev,take_len_self,hl_4,eq_true c1])
  ·dsimp only at hF
   cases hF;simp only[simprocAttr,R0,b17,h_0,eq_true c1];refine W.mono (l17_1 a0 a1 gt11 (ei _ (ai rfl ?_))) ?_
   ·simp only[simprocAttr,R0,h_0,eq_true c1]
   rintro _ e h ⟨rfl,hq⟩;simp only[simprocAttr,RR,RB];exact hq
 ·rw[if_neg c1]at hF
  cases hF;simp only[simprocAttr,R0,b17,h_0,eq_false c1];exact fin_ret (by simp only[simprocAttr,R0,fn_out,p17,Rs.ev,take_len_self,h_0,eq_false c1])
def F16(a0:GComplex)(a1:GComplex):Option Bool:=
 if a0.Prime=a1.Prime then
  (F30 a0.Dims a1.Dims).bind fun x2=>
  if x2=true then
   (F17 a0.Maps a1.Maps).bind fun x4=>
   if x4=true then
    some true
   else
    some false
  else
   some false
 else
  some false
theorem s16(a0:GComplex)(a1:GComplex){r:Bool}(hF:F16 a0 a1=some r):ans A 16 [(eC a0),(eC a1)]=some (Enc.enc r):=by
 refine ans_of (f:=p16) rfl rfl rfl fun e hl he=>?_;have h0_0:e.at 0=(eC a0):=he 0 _ rfl;have h1_0:e.at 1=(eC a1):=he 1 _ rfl;have hl_0:e.length=22:=hl;clear he hl;have h_0:=ai hl_0 (ai h0_0 h1_0);show W A b16 e ⟨[],0⟩ _;unfold F16 at hF;by_cases c1:a0.Prime=a1.Prime
 ·rw[if_pos c1]at hF
  obtain⟨x2,gx2,hF⟩:=bS hF;have w3:ans A 30 [V.isl (a0.Dims.map Enc.enc),V.isl (a1.Dims.map Enc.enc)]=some (V.bool x2):=s30 a0.Dims a1.Dims gx2;cases x2 with
  |true=>
   rw[if_pos rfl]at hF;obtain⟨x4,gx4,hF⟩:=bS hF;have w5:ans A 17 [V.isl (a0.Maps.map Enc.enc),V.isl (a1.Maps.map Enc.enc)]=some (V.bool x4):=s17 a0.Maps a1.Maps gx4;cases x4 with
   |true=>
    rw[if_pos rfl]at hF;cases hF;simp only[simprocAttr,R0,b16,h_0,eq_true c1,w3,w5];exact fin_ret (by simp only[simprocAttr,R0,fn_out,p16,Rs.ev,take_len_self,h_0,eq_true c1,w3,w5])
   |false=>
    rw[if_neg Bool.false_ne_true]at hF;cases hF;simp only[simprocAttr,R0,b16,h_0,eq_true c1,w3,w5];exact fin_ret (by simp only[simprocAttr,R0,fn_out,p16,Rs.ev,take_len_self,h_0,eq_true c1,w3,w5])
  |false=>
   rw[if_neg Bool.false_ne_true]at hF;cases hF;simp only[simprocAttr,R0,b16,h_0,eq_true c1,w3];exact fin_ret (by simp only[simprocAttr,R0,fn_out,p16,Rs.ev,take_len_self,h_0,eq_true c1,w3])
 ·rw[if_neg c1]at hF
  cases hF;simp only[simprocAttr,R0,b16,h_0,eq_false c1];exact fin_ret (by simp only[simprocAttr,R0,fn_out,p16,Rs.ev,take_len_self,h_0,eq_false c1])
def F31_1_B(i:Int)(s:List Int×Int):Option ((List Int×Int)⊕(List Int×Int)):=
 (setI s.1 i s.2).bind fun l=>(chk (s.2+1)).bind fun k=> some (.inl (l,k))
def F31_1_D(i:Int)(s:List Int×Int):Option (List Int×Int):=some s
def F31(l:List Int)(k:Int):Option (List Int×Int):=forR 0 (l.length:Int) F31_1_B F31_1_D (l,k)
theorem d31{l:List Int}{k:Int}{r:List Int×Int}(hF:F31 l k=some r)(h:Heap){v:V}{K:Ks}(hr:Deep.rep h v l K):
  ∃h',res A 31 [v,V.int .i64 k] h=some (V.int .i64 r.2,h')∧Deep.rep h' v r.1 K∧(∀k,¬K k→h'.ents[k]? =h.ents[k]?)∧h'.ents.length=h.ents.length:=by
 refine res_ex (f:=p31) rfl rfl rfl fun e hl he=>?_;have h0_0:e.at 0=v:=he 0 _ rfl;have h1_0:e.at 1=V.int .i64 k:=he 1 _ rfl;have hl_0:e.length=19:=hl;clear he hl;show W A b31 e h _;unfold F31 at hF;obtain⟨E,c⟩:=h;simp only[simprocAttr, -Int.reduceNatCast',R1,b31,hl_0,h0_0,h1_0];show W A (.block 0 (.loop true b31_1)) _ _ _;rw[W_block];refine W_forR hF _ rfl (fun i s e h=> Deep.rep h v s.1 K∧(∀k,¬K k→h.ents[k]? =E[k]?)∧h.ents.length=E.length∧s.1.length=l.length∧e.length=19∧e.at 0=v∧e.at 1=V.int .i64 s.2∧e.at 5=V.int .i64 i) ?_ ?_ ?_
 ·refine⟨hr,fun _ _=> rfl,rfl,rfl,?_⟩
  simp only[simprocAttr, -Int.reduceNatCast',R1,hl_0,h0_0,h1_0]
 ·clear hl_0 h0_0 h1_0
  rintro i ⟨s,q⟩ e ⟨E3,c3⟩ ⟨q1,q2,q3,q4,hl_1,h0_1,h1_1,h5_1⟩ hlt hw oo ho;unfold F31_1_B at ho;simp only at ho q1 q2 q3 q4 h1_1;obtain⟨s2,gs,ho⟩:=bS ho;obtain⟨s1,s2',s3,s4,s5⟩:=setI_w gs;obtain⟨k2,gk,ho⟩:=bS ho;have wk:=chk_w gk;have hE:=Option.some.inj ho; subst hE;rcases row_int q1 with⟨_,rfl,_⟩|⟨key3,uid3,hx2,d1,d2⟩
  ·simp at s2'; omega
  simp only at d1;have s5':List.take i.toNat (s.map Enc.enc)++[V.int .i64 q]++List.drop (i.toNat+1) (s.map Enc.enc)=List.map Enc.enc s2:=s5;rw[q4]at s3;simp only[simprocAttr, -Int.reduceNatCast',R1,b31_1,hl_1,h0_1,h1_1,h5_1,eq_true hlt,hw,hx2,q4,d1,s1,s3,s5',wk];have hk3:key3 < E3.length:=(List.getElem?_eq_some_iff.1 d1).1;have hsl:s2.length=l.length:=by rw[s4]; exact q4
  refine ai rfl ⟨?_,fun k nk=>?_,by rw[←q3]; simp,hsl,?_⟩
  ·rw[←hsl]; exact int_row (set_app_key hk3) d2
  ·exact(set_ne (fun e=> nk ((d2 k).2 e))).trans (q2 k nk)
  ·simp only[simprocAttr, -Int.reduceNatCast',R1,hl_1,h0_1,h1_1,h5_1,hw,hx2,q4]
 ·clear hl_0 h0_0 h1_0
  rintro i ⟨s,q⟩ e ⟨E3,c3⟩ ⟨q1,q2,q3,q4,hl_1,h0_1,h1_1,h5_1⟩ hge t1 ho;have hE:=Option.some.inj ho; subst hE;have hlen:=rep_len q1;simp only at hlen q1 q2 q3 q4 h1_1;simp only[simprocAttr, -Int.reduceNatCast',R1,b31_1,hl_1,h0_1,h1_1,h5_1,hlen,q4,eq_false hge];intro ht; subst ht;refine ai (fun _=> trivial) ⟨?_,q1,q2,q3⟩;simp only[simprocAttr, -Int.reduceNatCast',R1,fn_out,p31,Rs.ev,mapO,hl_1]
def F52_1_B(i:Int)(s:List (List Int)×Int):Option ((List (List Int)×Int)⊕(List (List Int)×Int)):=
 (getI s.1 i).bind fun r=>(F31 r s.2).bind fun q=>(setI s.1 i q.1).bind fun l=> some (.inl (l,q.2))
def F52_1_D(i:Int)(s:List (List Int)×Int):Option (List (List Int)×Int):=some s
def F52(l:List (List Int))(k:Int):Option (List (List Int)×Int):=forR 0 (l.length:Int) F52_1_B F52_1_D (l,k)
theorem d52{l:List (List Int)}{k:Int}{r:List (List Int)×Int}(hF:F52 l k=some r)(h:Heap){v:V}{K:Ks}(hr:Deep.rep h v l K):
  ∃h',res A 52 [v,V.int .i64 k] h=some (V.int .i64 r.2,h')∧Deep.rep h' v r.1 K∧(∀k,¬K k→h'.ents[k]? =h.ents[k]?)∧h'.ents.length=h.ents.length:=by
 refine res_ex (f:=p52) rfl rfl rfl fun e hl he=>?_;have h0_0:e.at 0=v:=he 0 _ rfl;have h1_0:e.at 1=V.int .i64 k:=he 1 _ rfl;have hl_0:e.length=19:=hl;clear he hl;show W A b52 e h _;unfold F52 at hF;obtain⟨E,c⟩:=h;simp only[simprocAttr, -Int.reduceNatCast',R1,b52,hl_0,h0_0,h1_0];show W A (.block 0 (.loop true b52_1)) _ _ _;rw[W_block];refine W_forR hF _ rfl (fun i s e h=> Deep.rep h v s.1 K∧(∀k,¬K k→h.ents[k]? =E[k]?)∧h.ents.length=E.length∧s.1.length=l.length∧e.length=19∧e.at 0=v∧e.at 1=V.int .i64 s.2∧e.at 5=V.int .i64 i) ?_ ?_ ?_
 ·refine⟨hr,fun _ _=> rfl,rfl,rfl,?_⟩
  simp only[simprocAttr, -Int.reduceNatCast',R1,hl_0,h0_0,h1_0]
 ·clear hl_0 h0_0 h1_0
  rintro i ⟨s,q⟩ e ⟨E3,c3⟩ ⟨q1,q2,q3,q4,hl_1,h0_1,h1_1,h5_1⟩ hlt hw oo ho;unfold F52_1_B at ho;simp only at ho q1 q2 q3 q4 h1_1;obtain⟨row,gr,ho⟩:=bS ho;obtain⟨ra,rb⟩:=getI_w gr;obtain⟨t,gt,ho⟩:=bS ho;obtain⟨s2,gs,ho⟩:=bS ho;have sm:s2=s.set i.toNat t.1:=setI_eq gs;have hE:=Option.some.inj ho; subst hE;obtain⟨key,uid,vs,x1,K1,hm,a1,a2,a3,a4,a5,a6⟩:=rep_focus q1 rb;obtain⟨⟨E4,c4⟩,w1,r1,r2,r3⟩:=d31 gt ⟨E3,c3⟩ a4;have o1:=ofCells_drop a2;simp only at a1 r2 r3;have hsl:s2.length=l.length:=by rw[sm,List.length_set]; exact q4
  have r4:=a6 _ _ r1 fun k _ nk=> r2 k nk;rw[←sm]at r4;simp only[simprocAttr, -Int.reduceNatCast',R1,b52_1,hl_1,h0_1,h1_1,h5_1,eq_true hlt,hw,hm,q4,a1,ra,o1,callM_plain_eq,w1];refine ai rfl ⟨?_,fun k nk=>(r2 k fun p=> nk (a5 k p)).trans (q2 k nk),by rw[←q3]; exact r3,hsl,?_⟩
  ·rw[←q4,←hm]; exact r4
  ·simp only[simprocAttr, -Int.reduceNatCast',R1,hl_1,h0_1,h1_1,h5_1,hw,hm,q4]
 ·clear hl_0 h0_0 h1_0
  rintro i ⟨s,q⟩ e ⟨E3,c3⟩ ⟨q1,q2,q3,q4,hl_1,h0_1,h1_1,h5_1⟩ hge t1 ho;have hE:=Option.some.inj ho; subst hE;have hlen:=rep_len q1;simp only at hlen q1 q2 q3 q4 h1_1;simp only[simprocAttr, -Int.reduceNatCast',R1,b52_1,hl_1,h0_1,h1_1,h5_1,hlen,q4,eq_false hge];intro ht; subst ht;refine ai (fun _=> trivial) ⟨?_,q1,q2,q3⟩;simp only[simprocAttr, -Int.reduceNatCast',R1,fn_out,p52,Rs.ev,mapO,hl_1]
def F21_1_B(i:Int)(s:List (List (List Int))×Int):Option ((List (List (List Int))×Int)⊕(List (List (List Int))×Int)):=
 (getI s.1 i).bind fun r=>(F52 r s.2).bind fun q=>(setI s.1 i q.1).bind fun l=> some (.inl (l,q.2))
def F21_1_D(i:Int)(s:List (List (List Int))×Int):Option (List (List (List Int))×Int):=some s
def F21(l:List (List (List Int)))(k:Int):Option (List (List (List Int))×Int):=forR 0 (l.length:Int) F21_1_B F21_1_D (l,k)
def FM21(x:List (List (List Int)))(k:Int):Option ((List (List (List Int)))×Int):=F21 x k
theorem d21{l:List (List (List Int))}{k:Int}{r:List (List (List Int))×Int}(hF:F21 l k=some r)(h:Heap){v:V}{K:Ks}(hr:Deep.rep h v l K):
  ∃h',res A 21 [v,V.int .i64 k] h=some (V.int .i64 r.2,h')∧Deep.rep h' v r.1 K∧(∀k,¬K k→h'.ents[k]? =h.ents[k]?)∧h'.ents.length=h.ents.length:=by
 refine res_ex (f:=p21) rfl rfl rfl fun e hl he=>?_;have h0_0:e.at 0=v:=he 0 _ rfl;have h1_0:e.at 1=V.int .i64 k:=he 1 _ rfl;have hl_0:e.length=19:=hl;clear he hl;show W A b21 e h _;unfold F21 at hF;obtain⟨E,c⟩:=h;simp only[simprocAttr, -Int.reduceNatCast',R1,b21,hl_0,h0_0,h1_0];show W A (.block 0 (.loop true b21_1)) _ _ _;rw[W_block];refine W_forR hF _ rfl (fun i s e h=> Deep.rep h v s.1 K∧(∀k,¬K k→h.ents[k]? =E[k]?)∧h.ents.length=E.length∧s.1.length=l.length∧e.length=19∧e.at 0=v∧e.at 1=V.int .i64 s.2∧e.at 5=V.int .i64 i) ?_ ?_ ?_
 ·refine⟨hr,fun _ _=> rfl,rfl,rfl,?_⟩
  simp only[simprocAttr, -Int.reduceNatCast',R1,hl_0,h0_0,h1_0]
 ·clear hl_0 h0_0 h1_0
  rintro i ⟨s,q⟩ e ⟨E3,c3⟩ ⟨q1,q2,q3,q4,hl_1,h0_1,h1_1,h5_1⟩ hlt hw oo ho;unfold F21_1_B at ho;simp only at ho q1 q2 q3 q4 h1_1;obtain⟨row,gr,ho⟩:=bS ho;obtain⟨ra,rb⟩:=getI_w gr;obtain⟨t,gt,ho⟩:=bS ho;obtain⟨s2,gs,ho⟩:=bS ho;have sm:s2=s.set i.toNat t.1:=setI_eq gs;have hE:=Option.some.inj ho; subst hE;obtain⟨key,uid,vs,x1,K1,hm,a1,a2,a3,a4,a5,a6⟩:=rep_focus q1 rb;obtain⟨⟨E4,c4⟩,w1,r1,r2,r3⟩:=d52 gt ⟨E3,c3⟩ a4;have o1:=ofCells_drop a2;simp only at a1 r2 r3;have hsl:s2.length=l.length:=by rw[sm,List.length_set]; exact q4
  have r4:=a6 _ _ r1 fun k _ nk=> r2 k nk;rw[←sm]at r4;simp only[simprocAttr, -Int.reduceNatCast',R1,b21_1,hl_1,h0_1,h1_1,h5_1,eq_true hlt,hw,hm,q4,a1,ra,o1,callM_plain_eq,w1];refine ai rfl ⟨?_,fun k nk=>(r2 k fun p=> nk (a5 k p)).trans (q2 k nk),by rw[←q3]; exact r3,hsl,?_⟩
  ·rw[←q4,←hm]; exact r4
  ·simp only[simprocAttr, -Int.reduceNatCast',R1,hl_1,h0_1,h1_1,h5_1,hw,hm,q4]
 ·clear hl_0 h0_0 h1_0
  rintro i ⟨s,q⟩ e ⟨E3,c3⟩ ⟨q1,q2,q3,q4,hl_1,h0_1,h1_1,h5_1⟩ hge t1 ho;have hE:=Option.some.inj ho; subst hE;have hlen:=rep_len q1;simp only at hlen q1 q2 q3 q4 h1_1;simp only[simprocAttr, -Int.reduceNatCast',R1,b21_1,hl_1,h0_1,h1_1,h5_1,hlen,q4,eq_false hge];intro ht; subst ht;refine ai (fun _=> trivial) ⟨?_,q1,q2,q3⟩;simp only[simprocAttr, -Int.reduceNatCast',R1,fn_out,p21,Rs.ev,mapO,hl_1]
theorem dm21{x:List (List (List Int))}{k:Int}{r:(List (List (List Int)))×Int}(hF:FM21 x k=some r)(h:Heap){v:V}{K:Ks}(hr:Deep.rep h v x K):∃h',res A 21 [v,V.int .i64 k] h=some (V.int .i64 r.2,h')∧Deep.rep h' v r.1 K∧(∀k,k < h.ents.length→¬K k→h'.ents[k]? =h.ents[k]?)∧h.ents.length≤h'.ents.length:=by
 obtain⟨h',w,q1,q2,q3⟩:=d21 hF h hr;exact⟨h',w,q1,fun k _ nk=> q2 k nk,by omega⟩
def F20(d:List Int)(ms:List (List (List Int)))(k:Int):Option (List Int×List (List (List Int))×Int):=
 (F31 d k).bind fun q=>(F21 ms q.2).bind fun t=> some (q.1,t.1,t.2)
def FM20(x:GComplex)(k:Int):Option (GComplex×Int):=(F20 x.Dims x.Maps k).bind fun t=> some (⟨x.Prime,t.1,t.2.1⟩,t.2.2)
theorem d20{d:List Int}{ms:List (List (List Int))}{p k:Int}{r:List Int×List (List (List Int))×Int}(hF:F20 d ms k=some r)(h:Heap){dv mv:V}{K1 K2:Ks}(h1:Deep.rep h dv d K1)(h2:Deep.rep h mv ms K2)(hd:∀k,K1 k→¬K2 k):
  ∃h',res A 20 [V.agg [V.int .i64 p,dv,mv],V.int .i64 k] h=some (V.int .i64 r.2.2,h')∧Deep.rep h' dv r.1 K1∧Deep.rep h' mv r.2.1 K2∧(∀k,k < h.ents.length→¬K1 k→¬K2 k→h'.ents[k]? =h.ents[k]?)∧h.ents.length≤h'.ents.length:=by
 refine res_ex (f:=p20) rfl rfl rfl fun e hl he=>?_;have h0_0:e.at 0=V.agg [V.int .i64 p,dv,mv]:=he 0 _ rfl;have h1_0:e.at 1=V.int .i64 k:=he 1 _ rfl;have hl_0:e.length=14:=hl;clear he hl;show W A b20 e h _;unfold F20 at hF;obtain⟨q,gq,hF⟩:=bS hF;obtain⟨t,gt,hF⟩:=bS hF;cases hF;obtain⟨E,c⟩:=h;have pre:∀ (x:Nat×Option (List V)) k,k < E.length→(E++[x])[k]? =E[k]?:=fun x k hk=> List.getElem?_append_left hk;have n1:¬K1 E.length:=fun x=> by have:=Deep.bd h1 x; simp at this
 have n2:¬K2 E.length:=fun x=> by have:=Deep.bd h2 x; simp at this
 obtain⟨⟨E3,c3⟩,w1,a1,a2,a3⟩:=d31 gq ⟨E++[(c,some [V.int .i64 p,dv,mv])],c+1⟩ (Deep.frame h1 fun k hk=> pre _ k (Deep.bd h1 hk));simp only at a2 a3;have m1:E3[E.length]? =some (c,some [V.int .i64 p,dv,mv]):=(a2 _ n1).trans (get_last _ _);have h2':Deep.rep ⟨E3,c3⟩ mv ms K2:=Deep.frame h2 fun k hk=>(a2 k fun x=> hd k x hk).trans (pre _ k (Deep.bd h2 hk));obtain⟨⟨E4,c4⟩,w2,b1,b2,b3⟩:=d21 gt ⟨E3,c3⟩ h2';simp only at b2 b3;have h1':Deep.rep ⟨E4,c4⟩ dv q.1 K1:=Deep.frame a1 fun k hk=> b2 k (hd k hk);simp only[simprocAttr,R1,b20,hl_0,h0_0,h1_0,get_last,callM_plain_eq,w1,m1,w2];refine ai (fun _=> trivial) ⟨?_,h1',b1,fun k hk x y=>(b2 k y).trans ((a2 k x).trans (pre _ k hk)),by simp at a3; omega⟩;simp only[simprocAttr,R1,fn_out,p20,Rs.ev,mapO,hl_0]
theorem dm20{x:GComplex}{k:Int}{r:GComplex×Int}(hF:FM20 x k=some r)(h:Heap){v:V}{K:Ks}(hr:Deep.rep h v x K):∃h',res A 20 [v,V.int .i64 k] h=some (V.int .i64 r.2,h')∧Deep.rep h' v r.1 K∧(∀k,k < h.ents.length→¬K k→h'.ents[k]? =h.ents[k]?)∧h.ents.length≤h'.ents.length:=by
 obtain⟨vs,rfl,r0⟩:=hr;obtain⟨dv,mv,K1,K2,rfl,h1,h2,h3,h4⟩:=rec3_un r0;unfold FM20 at hF;obtain⟨t,gt,hF⟩:=bS hF;cases hF;obtain⟨h',w,q1,q2,q3,q4⟩:=d20 (p:=x.Prime) gt h h1 h2 h3;exact⟨h',w,⟨_,rfl,(rec3 q1 q2 h3).to h4⟩,fun k hk nk=> q3 k hk (fun y=> nk ((h4 k).2 (.inl y))) (fun y=> nk ((h4 k).2 (.inr y))),q4⟩
def F54(a0:Int)(a1:Int)(a2:Int):Option Bool:=
 if a1≤a0 then
  some (decide (a0≤a2))
 else
  some false
theorem s54(a0:Int)(a1:Int)(a2:Int){r:Bool}(hF:F54 a0 a1 a2=some r):ans A 54 [V.int .i64 a0,V.int .i64 a1,V.int .i64 a2]=some (Enc.enc r):=by
 refine ans_of (f:=p54) rfl rfl rfl fun e hl he=>?_;have h0_0:e.at 0=V.int .i64 a0:=he 0 _ rfl;have h1_0:e.at 1=V.int .i64 a1:=he 1 _ rfl;have h2_0:e.at 2=V.int .i64 a2:=he 2 _ rfl;have hl_0:e.length=15:=hl;clear he hl;have h_0:=ai hl_0 (ai h0_0 (ai h1_0 h2_0));show W A b54 e ⟨[],0⟩ _;unfold F54 at hF;by_cases c1:a1≤a0
 ·rw[if_pos c1]at hF
  cases hF;simp only[simprocAttr,R0,b54,h_0,eq_true c1];exact fin_ret (by simp only[simprocAttr,R0,fn_out,p54,Rs.ev,take_len_self,h_0,eq_true c1])
 ·rw[if_neg c1]at hF
  cases hF;simp only[simprocAttr,R0,b54,h_0,eq_false c1];exact fin_ret (by simp only[simprocAttr,R0,fn_out,p54,Rs.ev,take_len_self,h_0,eq_false c1])
def F78(a0:Int):Option Bool:=
 if a0=2 then
  some true
 else
  if a0=3 then
   some true
  else
   if a0=5 then
    some true
   else
    some (decide (a0=7))
theorem s78(a0:Int){r:Bool}(hF:F78 a0=some r):ans A 78 [V.int .i64 a0]=some (Enc.enc r):=by
 refine ans_of (f:=p78) rfl rfl rfl fun e hl he=>?_;have h0_0:e.at 0=V.int .i64 a0:=he 0 _ rfl;have hl_0:e.length=17:=hl;clear he hl;have h_0:=ai hl_0 h0_0;show W A b78 e ⟨[],0⟩ _;unfold F78 at hF;by_cases c1:a0=2
 ·rw[if_pos c1]at hF
  cases hF;simp only[simprocAttr,R0,b78,h_0,eq_true c1];exact fin_ret (by simp only[simprocAttr,R0,fn_out,p78,Rs.ev,take_len_self,h_0,eq_true c1])
 ·rw[if_neg c1]at hF
  by_cases c2:a0=3
  ·rw[if_pos c2]at hF
   cases hF;simp only[simprocAttr,R0,b78,h_0,eq_false c1,eq_true c2];exact fin_ret (by simp only[simprocAttr,R0,fn_out,p78,Rs.ev,take_len_self,h_0,eq_false c1,eq_true c2])
  ·rw[if_neg c2]at hF
   by_cases c3:a0=5
   ·rw[if_pos c3]at hF
    cases hF;simp only[simprocAttr,R0,b78,h_0,eq_false c1,eq_false c2,eq_true c3];exact fin_ret (by simp only[simprocAttr,R0,fn_out,p78,Rs.ev,take_len_self,h_0,eq_false c1,eq_false c2,eq_true c3])
   ·rw[if_neg c3]at hF
    cases hF;simp only[simprocAttr,R0,b78,h_0,eq_false c1,eq_false c2,eq_false c3];exact fin_ret (by simp only[simprocAttr,R0,fn_out,p78,Rs.ev,take_len_self,h_0,eq_false c1,eq_false c2,eq_false c3])
def F79_2_S(a0:Int)(a1:List (List Int))(a3:Int)(v9_1:Int)(v10_2:Int):Option ((Int)⊕((Unit)⊕Bool)):=
 (getI a1 v9_1).bind fun x11=>
if v10_2 < (x11.length:Int)then
 (getI x11 v10_2).bind fun x14=>
 (chk (a0 - 1)).bind fun x16=>
 (F54 x14 0 x16).bind fun x17=>
 if x17=true then
  (chk (v10_2+1)).bind fun x19=>
  some (.inl x19)
 else
  some (.inr (.inr false))
else
 some (.inr (.inl ()))
def F79_1_B(a0:Int)(a1:List (List Int))(a3:Int)(v9_1:Int)(s:Unit):Option ((Unit)⊕((Unit)⊕Bool)):=
 (getI a1 v9_1).bind fun x5=>
if(x5.length:Int)=a3 then
 (loopW (F79_2_S a0 a1 a3 v9_1) 0).bind fun t20=> match t20 with
  | .inl _=>
   some (.inl ())
  | .inr r21=> some (.inr (.inr r21))
else
 some (.inr (.inr false))
def F79_1_D(a0:Int)(a1:List (List Int))(a3:Int)(v9_1:Int)(s:Unit):Option ((Unit)⊕Bool):=
 some (.inl ())
def F79(a0:Int)(a1:List (List Int))(a2:Int)(a3:Int):Option Bool:=
 if(a1.length:Int)=a2 then
  (forR 0 (a1.length:Int) (F79_1_B a0 a1 a3) (F79_1_D a0 a1 a3) ()).bind fun t22=> match t22 with
   | .inl _=>
    some true
   | .inr r23=> some r23
 else
  some false
def I79_2(a0:Int)(a1:List (List Int))(a3:Int)(v9_1:Int)(v10_2:Int)(e:Env)(h:Heap):Prop:=
 ∃k9:Nat,h=⟨[],k9⟩∧e.length=48∧e.at 0=V.int .i64 a0∧e.at 1=V.isl (a1.map Enc.enc)∧e.at 3=V.int .i64 a3∧e.at 9=V.int .i64 v9_1∧e.at 10=V.int .i64 v10_2
def P79_2(a0:Int)(a1:List (List Int))(a3:Int)(v9_1:Int)(t:(Unit)⊕Bool)(x:Ex)(e:Env)(h:Heap):Prop:=
 match t with
 | .inl _=> x= .normal∧∃k9:Nat,h=⟨[],k9⟩∧e.length=48∧e.at 0=V.int .i64 a0∧e.at 1=V.isl (a1.map Enc.enc)∧e.at 3=V.int .i64 a3∧e.at 9=V.int .i64 v9_1
 | .inr r=> x= .ret∧Fin p79 (Enc.enc r) .ret e h
theorem l79_2(a0:Int)(a1:List (List Int))(a3:Int)(v9_1:Int){s:Int}{t:(Unit)⊕Bool}(hF:loopW (F79_2_S a0 a1 a3 v9_1) s=some t){e:Env}{h:Heap}(hI:I79_2 a0 a1 a3 v9_1 s e h):W A c79_2 e h (P79_2 a0 a1 a3 v9_1 t):=by
 show W A (.block 2 (.loop false b79_2)) e h _;rw[W_block];refine W_loop hF 0 (by obtain⟨_,rfl,_⟩:=hI; rfl) (I79_2 a0 a1 a3 v9_1) hI ?_
 ·rintro v10_2 e h ⟨k9,rfl,h_8⟩ o ho
  unfold F79_2_S at ho;obtain⟨x11,gx11,ho⟩:=bS ho;obtain⟨w12a,w12b⟩:=getI_w gx11;by_cases c13:v10_2 < (x11.length:Int)
  ·rw[if_pos c13]at ho
   obtain⟨x14,gx14,ho⟩:=bS ho;obtain⟨w15a,w15b⟩:=getI_w gx14;obtain⟨x16,gx16,ho⟩:=bS ho;have wx16:=chk_w gx16;obtain⟨x17,gx17,ho⟩:=bS ho;have w18:ans A 54 [V.int .i64 x14,V.int .i64 0,V.int .i64 x16]=some (V.bool x17):=s54 x14 0 x16 gx17;cases x17 with
   |true=>
    rw[if_pos rfl]at ho;obtain⟨x19,gx19,ho⟩:=bS ho;have wx19:=chk_w gx19;cases ho;simp only[simprocAttr,R0,b79_2,h_8,w12a,w12b,eq_true c13,w15a,w15b,wx16,w18,wx19];refine ai rfl (ei _ (ai rfl ?_));simp only[simprocAttr,R0,h_8,w12a,w12b,eq_true c13,w15a,w15b,wx16,w18,wx19]
   |false=>
    rw[if_neg Bool.false_ne_true]at ho;cases ho;simp only[simprocAttr,R0,b79_2,h_8,w12a,w12b,eq_true c13,w15a,w15b,wx16,w18];intro ht; subst ht;simp only[simprocAttr,RR,RB];exact ai rfl (fin_ret (by simp only[simprocAttr,R0,fn_out,p79,Rs.ev,take_len_self,h_8,w12a,w12b,eq_true c13,w15a,w15b,wx16,w18]))
  ·rw[if_neg c13]at ho
   cases ho;simp only[simprocAttr,R0,b79_2,h_8,w12a,w12b,eq_false c13];intro ht; subst ht;simp only[simprocAttr,RR,RB];refine ai rfl (ei _ (ai rfl ?_));simp only[simprocAttr,R0,h_8,w12a,w12b,eq_false c13]
def I79_1(a0:Int)(a1:List (List Int))(a3:Int)(v9_1:Int)(s:Unit)(e:Env)(h:Heap):Prop:=
 ∃k3:Nat,h=⟨[],k3⟩∧e.length=48∧e.at 0=V.int .i64 a0∧e.at 1=V.isl (a1.map Enc.enc)∧e.at 3=V.int .i64 a3∧e.at 9=V.int .i64 v9_1
def P79_1(a0:Int)(a1:List (List Int))(a3:Int)(t:(Unit)⊕Bool)(x:Ex)(e:Env)(h:Heap):Prop:=
 match t with
 | .inl _=> x= .normal∧∃k3:Nat,h=⟨[],k3⟩∧e.length=48
 | .inr r=> x= .ret∧Fin p79 (Enc.enc r) .ret e h
theorem l79_1(a0:Int)(a1:List (List Int))(a3:Int){lo:Int}{s:Unit}{t:(Unit)⊕Bool}(hF:forR lo (a1.length:Int) (F79_1_B a0 a1 a3) (F79_1_D a0 a1 a3) s=some t){e:Env}{h:Heap}(hI:I79_1 a0 a1 a3 lo s e h):W A c79_1 e h (P79_1 a0 a1 a3 t):=by
 show W A (.block 0 (.loop false b79_1)) e h _;rw[W_block];refine W_forR hF 0 (by obtain⟨_,rfl,_⟩:=hI; rfl) (I79_1 a0 a1 a3) hI ?_ ?_
 ·rintro v9_1 _ e h ⟨k3,rfl,h_2⟩ hlt hw o ho
  unfold F79_1_B at ho;obtain⟨x5,gx5,ho⟩:=bS ho;obtain⟨w6a,w6b⟩:=getI_w gx5;by_cases c7:(x5.length:Int)=a3
  ·rw[if_pos c7]at ho
   obtain⟨t20,gt20,ho⟩:=bS ho;rcases t20 with _|r21
   ·dsimp only at ho
    simp only[simprocAttr,R0,b79_1,h_2,eq_true hlt,hw,w6a,w6b,eq_true c7];refine W.mono (l79_2 a0 a1 a3 v9_1 gt20 (ei _ (ai rfl ?_))) ?_
    ·simp only[simprocAttr,R0,h_2,eq_true hlt,hw,w6a,w6b,eq_true c7]
    rintro _ e _ ⟨rfl,k9,rfl,h_10⟩;cases ho;simp only[simprocAttr,R0,h_10,eq_true hlt,hw,eq_true c7];refine ai rfl (ei _ (ai rfl ?_));simp only[simprocAttr,R0,h_10,eq_true hlt,hw,eq_true c7]
   ·dsimp only at ho
    cases ho;simp only[simprocAttr,R0,b79_1,h_2,eq_true hlt,hw,w6a,w6b,eq_true c7];refine W.mono (l79_2 a0 a1 a3 v9_1 gt20 (ei _ (ai rfl ?_))) ?_
    ·simp only[simprocAttr,R0,h_2,eq_true hlt,hw,w6a,w6b,eq_true c7]
    rintro _ e h ⟨rfl,hq⟩;simp only[simprocAttr,RR,RB];intro ht; subst ht;simp only[simprocAttr,RR,RB];exact ai rfl hq
  ·rw[if_neg c7]at ho
   cases ho;simp only[simprocAttr,R0,b79_1,h_2,eq_true hlt,hw,w6a,w6b,eq_false c7];intro ht; subst ht;simp only[simprocAttr,RR,RB];exact ai rfl (fin_ret (by simp only[simprocAttr,R0,fn_out,p79,Rs.ev,take_len_self,h_2,eq_true hlt,hw,w6a,w6b,eq_false c7]))
 ·rintro v9_1 _ e h ⟨k3,rfl,h_2⟩ hge t1 ho
  unfold F79_1_D at ho;cases ho;simp only[simprocAttr,R0,b79_1,h_2,eq_false hge];intro ht; subst ht;refine ai rfl (ei _ (ai rfl ?_));simp only[simprocAttr,R0,h_2,eq_false hge]
theorem s79(a0:Int)(a1:List (List Int))(a2:Int)(a3:Int){r:Bool}(hF:F79 a0 a1 a2 a3=some r):ans A 79 [V.int .i64 a0,V.isl (a1.map Enc.enc),V.int .i64 a2,V.int .i64 a3]=some (Enc.enc r):=by
 refine ans_of (f:=p79) rfl rfl rfl fun e hl he=>?_;have h0_0:e.at 0=V.int .i64 a0:=he 0 _ rfl;have h1_0:e.at 1=V.isl (a1.map Enc.enc):=he 1 _ rfl;have h2_0:e.at 2=V.int .i64 a2:=he 2 _ rfl;have h3_0:e.at 3=V.int .i64 a3:=he 3 _ rfl;have hl_0:e.length=48:=hl;clear he hl;have h_0:=ai hl_0 (ai h0_0 (ai h1_0 (ai h2_0 h3_0)));show W A b79 e ⟨[],0⟩ _;unfold F79 at hF;by_cases c1:(a1.length:Int)=a2
 ·rw[if_pos c1]at hF
  obtain⟨t22,gt22,hF⟩:=bS hF;rcases t22 with _|r23
  ·dsimp only at hF
   simp only[simprocAttr,R0,b79,h_0,eq_true c1];refine W.mono (l79_1 a0 a1 a3 gt22 (ei _ (ai rfl ?_))) ?_
   ·simp only[simprocAttr,R0,h_0,eq_true c1]
   rintro _ e _ ⟨rfl,k3,rfl,hl_4⟩;cases hF;simp only[simprocAttr,R0,hl_4,eq_true c1];exact fin_ret (by simp only[simprocAttr,R0,fn_out,p79,Rs.ev,take_len_self,hl_4,eq_true c1])
  ·dsimp only at hF
   cases hF;simp only[simprocAttr,R0,b79,h_0,eq_true c1];refine W.mono (l79_1 a0 a1 a3 gt22 (ei _ (ai rfl ?_))) ?_
   ·simp only[simprocAttr,R0,h_0,eq_true c1]
   rintro _ e h ⟨rfl,hq⟩;simp only[simprocAttr,RR,RB];exact hq
 ·rw[if_neg c1]at hF
  cases hF;simp only[simprocAttr,R0,b79,h_0,eq_false c1];exact fin_ret (by simp only[simprocAttr,R0,fn_out,p79,Rs.ev,take_len_self,h_0,eq_false c1])
def F80_2_S(a0:Int)(a1:List (List Int))(a2:List Int)(v10_1:Int)(s:(List Int)×Int):Option (((List Int)×Int)⊕((List Int))):=
 match s with
 |(o0_2,v11_2)=>
  if v11_2 < ((o0_2.length:Nat):Int)then
   (getI o0_2 v11_2).bind fun x12=>
   (getI a2 v10_1).bind fun x14=>
   (getI a1 v10_1).bind fun x16=>
   (getI x16 v11_2).bind fun x18=>
   (chk (x14*x18)).bind fun x20=>
   (chk (x12+x20)).bind fun x21=>
   (remI x21 a0).bind fun x22=>
   (setI o0_2 v11_2 x22).bind fun l24=>
   (chk (v11_2+1)).bind fun x26=>
   some (.inl (l24,x26))
  else
   some (.inr o0_2)
def F80_1_B(a0:Int)(a1:List (List Int))(a2:List Int)(v10_1:Int)(o0_1:(List Int)):Option (((List Int))⊕((List Int))):=
 (loopW (F80_2_S a0 a1 a2 v10_1) (o0_1,0)).bind fun zo0_2=>
some (.inl zo0_2)
def F80_1_D(a0:Int)(a1:List (List Int))(a2:List Int)(v10_1:Int)(o0_1:(List Int)):Option ((List Int)):=
 some o0_1
def F80(a0:Int)(a1:List (List Int))(a2:List Int)(a3:Int):Option (List Int):=
 (mkL 8 a3 0).bind fun l1=>
 (forR 0 (a2.length:Int) (F80_1_B a0 a1 a2) (F80_1_D a0 a1 a2) l1).bind fun zo0_1=>
 some zo0_1
def I80_2(a0:Int)(a1:List (List Int))(a2:List Int)(v10_1:Int)(s:(List Int)×Int)(e:Env)(h:Heap):Prop:=
 match s with
 |(o0_2,v11_2)=>
  ∃u8 k9:Nat,h=⟨[(u8,some (o0_2.map Enc.enc))],k9⟩∧e.length=49∧e.at 0=V.int .i64 a0∧e.at 1=V.isl (a1.map Enc.enc)∧e.at 2=V.isl (a2.map Enc.enc)∧e.at 9=V.sl 0 u8 0 o0_2.length 1∧e.at 10=V.int .i64 v10_1∧e.at 11=V.int .i64 v11_2
def P80_2(a0:Int)(a1:List (List Int))(a2:List Int)(v10_1:Int)(zo0_2:(List Int))(x:Ex)(e:Env)(h:Heap):Prop:=
 x= .normal∧∃u8 k9:Nat,h=⟨[(u8,some (zo0_2.map Enc.enc))],k9⟩∧e.length=49∧e.at 0=V.int .i64 a0∧e.at 1=V.isl (a1.map Enc.enc)∧e.at 2=V.isl (a2.map Enc.enc)∧e.at 9=V.sl 0 u8 0 zo0_2.length 1∧e.at 10=V.int .i64 v10_1
theorem l80_2(a0:Int)(a1:List (List Int))(a2:List Int)(v10_1:Int){s:(List Int)×Int}{t:(List Int)}(hF:loopW (F80_2_S a0 a1 a2 v10_1) s=some t){e:Env}{h:Heap}(hI:I80_2 a0 a1 a2 v10_1 s e h):W A c80_2 e h (P80_2 a0 a1 a2 v10_1 t):=by
 show W A (.block 2 (.loop false b80_2)) e h _;rw[W_block];refine W_loop hF 1 (by rcases s with⟨_,_⟩; obtain⟨_,_,rfl,_⟩:=hI; rfl) (I80_2 a0 a1 a2 v10_1) hI ?_
 ·rintro⟨o0_2,v11_2⟩ e h ⟨u8,k9,rfl,h_7⟩ o ho
  unfold F80_2_S at ho;dsimp only at ho;by_cases c11:v11_2 < ((o0_2.length:Nat):Int)
  ·rw[if_pos c11]at ho
   obtain⟨x12,gx12,ho⟩:=bS ho;obtain⟨w13a,w13b⟩:=getI_w gx12;have w13c:=getI_lt gx12;have w13d:List.drop (Int.toNat v11_2) (o0_2.map Enc.enc)=(V.int .i64 x12)::List.drop ((Int.toNat v11_2)+1) (o0_2.map Enc.enc):=drop_enc w13b;obtain⟨x14,gx14,ho⟩:=bS ho;obtain⟨w15a,w15b⟩:=getI_w gx14;obtain⟨x16,gx16,ho⟩:=bS ho;obtain⟨w17a,w17b⟩:=getI_w gx16;obtain⟨x18,gx18,ho⟩:=bS ho;obtain⟨w19a,w19b⟩:=getI_w gx18;obtain⟨x20,gx20,ho⟩:=bS ho;have wx20:=chk_w gx20;obtain⟨x21,gx21,ho⟩:=bS ho;have wx21:=chk_w gx21;obtain⟨x22,gx22,ho⟩:=bS ho;obtain⟨w23a,w23b⟩:=rem_w gx22;obtain⟨l24,gl24,ho⟩:=bS ho;obtain⟨w25a,w25b,w25c,w25d,w25e⟩:=setI_w gl24;replace w25e:List.take (Int.toNat v11_2) (o0_2.map Enc.enc)++[V.int .i64 x22]++List.drop (Int.toNat v11_2+1) (o0_2.map Enc.enc)=List.map Enc.enc l24:=w25e;obtain⟨x26,gx26,ho⟩:=bS ho;have wx26:=chk_w gx26;cases ho;simp only[simprocAttr,R0,b80_2,h_7,eq_true c11,w13a,w13b,w13c,w13d,w15a,w15b,w17a,w17b,w19a,w19b,wx20,wx21,eq_false w23a,w23b,w25a,w25b,w25c,w25e,wx26];refine ai rfl (ei _ (ei _ (ai rfl ?_)));simp only[simprocAttr,R0,h_7,eq_true c11,w13a,w13b,w13c,w13d,w15a,w15b,w17a,w17b,w19a,w19b,wx20,wx21,eq_false w23a,w23b,w25a,w25b,w25c,w25e,wx26,w25d]
  ·rw[if_neg c11]at ho
   cases ho;simp only[simprocAttr,R0,b80_2,h_7,eq_false c11];intro ht; subst ht;simp only[simprocAttr,RR,RB];refine ai rfl (ei _ (ei _ (ai rfl ?_)));simp only[simprocAttr,R0,h_7,eq_false c11]
def I80_1(a0:Int)(a1:List (List Int))(a2:List Int)(v10_1:Int)(o0_1:(List Int))(e:Env)(h:Heap):Prop:=
 ∃u4 k5:Nat,h=⟨[(u4,some (o0_1.map Enc.enc))],k5⟩∧e.length=49∧e.at 0=V.int .i64 a0∧e.at 1=V.isl (a1.map Enc.enc)∧e.at 2=V.isl (a2.map Enc.enc)∧e.at 9=V.sl 0 u4 0 o0_1.length 1∧e.at 10=V.int .i64 v10_1
def P80_1(a0:Int)(a1:List (List Int))(a2:List Int)(zo0_1:(List Int))(x:Ex)(e:Env)(h:Heap):Prop:=
 x= .normal∧∃u4 k5:Nat,h=⟨[(u4,some (zo0_1.map Enc.enc))],k5⟩∧e.length=49∧e.at 9=V.sl 0 u4 0 zo0_1.length 1
theorem l80_1(a0:Int)(a1:List (List Int))(a2:List Int){lo:Int}{s:(List Int)}{t:(List Int)}(hF:forR lo (a2.length:Int) (F80_1_B a0 a1 a2) (F80_1_D a0 a1 a2) s=some t){e:Env}{h:Heap}(hI:I80_1 a0 a1 a2 lo s e h):W A c80_1 e h (P80_1 a0 a1 a2 t):=by
 show W A (.block 0 (.loop false b80_1)) e h _;rw[W_block];refine W_forR hF 1 (by obtain⟨_,_,rfl,_⟩:=hI; rfl) (I80_1 a0 a1 a2) hI ?_ ?_
 ·rintro v10_1 o0_1 e h ⟨u4,k5,rfl,h_3⟩ hlt hw o ho
  unfold F80_1_B at ho;obtain⟨zo0_2,gt27,ho⟩:=bS ho;simp only[simprocAttr,R0,b80_1,h_3,eq_true hlt,hw];refine W.mono (l80_2 a0 a1 a2 v10_1 gt27 (ei _ (ei _ (ai rfl ?_)))) ?_
  ·simp only[simprocAttr,R0,h_3,eq_true hlt,hw]
  rintro _ e _ ⟨rfl,u8,k9,rfl,h_10⟩;cases ho;simp only[simprocAttr,R0,h_10,eq_true hlt,hw];refine ai rfl (ei _ (ei _ (ai rfl ?_)));simp only[simprocAttr,R0,h_10,eq_true hlt,hw]
 ·rintro v10_1 o0_1 e h ⟨u4,k5,rfl,h_3⟩ hge t1 ho
  unfold F80_1_D at ho;cases ho;simp only[simprocAttr,R0,b80_1,h_3,eq_false hge];intro ht; subst ht;refine ai rfl (ei _ (ei _ (ai rfl ?_)));simp only[simprocAttr,R0,h_3,eq_false hge]
theorem s80(a0:Int)(a1:List (List Int))(a2:List Int)(a3:Int){r:List Int}(hF:F80 a0 a1 a2 a3=some r):ans A 80 [V.int .i64 a0,V.isl (a1.map Enc.enc),V.isl (a2.map Enc.enc),V.int .i64 a3]=some (Enc.enc r):=by
 refine ans_of (f:=p80) rfl rfl rfl fun e hl he=>?_;have h0_0:e.at 0=V.int .i64 a0:=he 0 _ rfl;have h1_0:e.at 1=V.isl (a1.map Enc.enc):=he 1 _ rfl;have h2_0:e.at 2=V.isl (a2.map Enc.enc):=he 2 _ rfl;have h3_0:e.at 3=V.int .i64 a3:=he 3 _ rfl;have hl_0:e.length=49:=hl;clear he hl;show W A b80 e ⟨[],0⟩ _;unfold F80 at hF;obtain⟨l1,gl1,hF⟩:=bS hF;obtain⟨w2a,w2b,w2c,w2d,w2e⟩:=mkL_w gl1;replace w2e:(List.replicate (Int.toNat a3) [V.int .i64 0]).flatten=List.map Enc.enc l1:=w2e;obtain⟨zo0_1,gt28,hF⟩:=bS hF;simp only[simprocAttr, -Int.reduceNatCast',R0,b80,hl_0,h0_0,h1_0,h2_0,h3_0,w2a,w2b,w2c,w2e];refine W.mono (l80_1 a0 a1 a2 gt28 (ei _ (ei _ (ai rfl ?_)))) ?_
 ·simp only[simprocAttr, -Int.reduceNatCast',R0,hl_0,h0_0,h1_0,h2_0,h3_0,w2a,w2b,w2c,w2e,w2d]
 rintro _ e _ ⟨rfl,u4,k5,rfl,hl_6,h9_6⟩;have hE:=Option.some.inj hF; subst hE;simp only[simprocAttr, -Int.reduceNatCast',R0,hl_6,h9_6];exact fin_ret (by simp only[simprocAttr, -Int.reduceNatCast',R0,fn_out,p80,Rs.ev,take_len_self,hl_6,h9_6,frzs (α:=Int) zo0_1,takes (α:=Int) zo0_1])
theorem t80(a0:Int)(a1:List (List Int))(a2:List Int)(a3:Int){r:List Int}(hF:F80 a0 a1 a2 a3=some r):tans A 80 [1] [V.int .i64 a0,V.isl (a1.map Enc.enc),V.isl (a2.map Enc.enc),V.int .i64 a3]=some (Enc.enc r):=by
 refine tans_of (f:=p80) rfl rfl rfl fun e hl he=>?_;have h0_0:e.at 0=V.int .i64 a0:=he 0 _ rfl;have h1_0:e.at 1=V.isl (a1.map Enc.enc):=he 1 _ rfl;have h2_0:e.at 2=V.isl (a2.map Enc.enc):=he 2 _ rfl;have h3_0:e.at 3=V.int .i64 a3:=he 3 _ rfl;have hl_0:e.length=49:=hl;clear he hl;show W A b80 e ⟨[],0⟩ _;unfold F80 at hF;obtain⟨l1,gl1,hF⟩:=bS hF;obtain⟨w2a,w2b,w2c,w2d,w2e⟩:=mkL_w gl1;replace w2e:(List.replicate (Int.toNat a3) [V.int .i64 0]).flatten=List.map Enc.enc l1:=w2e;obtain⟨zo0_1,gt28,hF⟩:=bS hF;simp only[simprocAttr, -Int.reduceNatCast',R0,b80,hl_0,h0_0,h1_0,h2_0,h3_0,w2a,w2b,w2c,w2e];refine W.mono (l80_1 a0 a1 a2 gt28 (ei _ (ei _ (ai rfl ?_)))) ?_
 ·simp only[simprocAttr, -Int.reduceNatCast',R0,hl_0,h0_0,h1_0,h2_0,h3_0,w2a,w2b,w2c,w2e,w2d]
 rintro _ e _ ⟨rfl,u4,k5,rfl,hl_6,h9_6⟩;have hE:=Option.some.inj hF; subst hE;simp only[simprocAttr, -Int.reduceNatCast',R0,hl_6,h9_6];exact tfin_ret (by simp only[simprocAttr, -Int.reduceNatCast',R0,fn_out,p80,Rs.ev,take_len_self,hl_6,h9_6,frzs (α:=Int) zo0_1,takes (α:=Int) zo0_1])
def F81_1_B(a0:List Int)(v3_1:Int)(s:Unit):Option ((Unit)⊕((Unit)⊕Int)):=
 (getI a0 v3_1).bind fun x4=>
if x4=0 then
 some (.inl ())
else
 some (.inr (.inr v3_1))
def F81_1_D(a0:List Int)(v3_1:Int)(s:Unit):Option ((Unit)⊕Int):=
 some (.inl ())
def F81(a0:List Int):Option Int:=
 (forR 0 (a0.length:Int) (F81_1_B a0) (F81_1_D a0) ()).bind fun t7=> match t7 with
  | .inl _=>
   some (-1)
  | .inr r8=> some r8
def I81_1(a0:List Int)(v3_1:Int)(s:Unit)(e:Env)(h:Heap):Prop:=
 ∃k2:Nat,h=⟨[],k2⟩∧e.length=16∧e.at 0=V.isl (a0.map Enc.enc)∧e.at 3=V.int .i64 v3_1
def P81_1(a0:List Int)(t:(Unit)⊕Int)(x:Ex)(e:Env)(h:Heap):Prop:=
 match t with
 | .inl _=> x= .normal∧∃k2:Nat,h=⟨[],k2⟩∧e.length=16
 | .inr r=> x= .ret∧Fin p81 (Enc.enc r) .ret e h
theorem l81_1(a0:List Int){lo:Int}{s:Unit}{t:(Unit)⊕Int}(hF:forR lo (a0.length:Int) (F81_1_B a0) (F81_1_D a0) s=some t){e:Env}{h:Heap}(hI:I81_1 a0 lo s e h):W A c81_1 e h (P81_1 a0 t):=by
 show W A (.block 0 (.loop false b81_1)) e h _;rw[W_block];refine W_forR hF 0 (by obtain⟨_,rfl,_⟩:=hI; rfl) (I81_1 a0) hI ?_ ?_
 ·rintro v3_1 _ e h ⟨k2,rfl,h_1⟩ hlt hw o ho
  unfold F81_1_B at ho;obtain⟨x4,gx4,ho⟩:=bS ho;obtain⟨w5a,w5b⟩:=getI_w gx4;by_cases c6:x4=0
  ·rw[if_pos c6]at ho
   cases ho;simp only[simprocAttr,R0,b81_1,h_1,eq_true hlt,hw,w5a,w5b,eq_true c6];refine ai rfl (ei _ (ai rfl ?_));simp only[simprocAttr,R0,h_1,eq_true hlt,hw,w5a,w5b,eq_true c6]
  ·rw[if_neg c6]at ho
   cases ho;simp only[simprocAttr,R0,b81_1,h_1,eq_true hlt,hw,w5a,w5b,eq_false c6];intro ht; subst ht;simp only[simprocAttr,RR,RB];exact ai rfl (fin_ret (by simp only[simprocAttr,R0,fn_out,p81,Rs.ev,take_len_self,h_1,eq_true hlt,hw,w5a,w5b,eq_false c6]))
 ·rintro v3_1 _ e h ⟨k2,rfl,h_1⟩ hge t1 ho
  unfold F81_1_D at ho;cases ho;simp only[simprocAttr,R0,b81_1,h_1,eq_false hge];intro ht; subst ht;refine ai rfl (ei _ (ai rfl ?_));simp only[simprocAttr,R0,h_1,eq_false hge]
theorem s81(a0:List Int){r:Int}(hF:F81 a0=some r):ans A 81 [V.isl (a0.map Enc.enc)]=some (Enc.enc r):=by
 refine ans_of (f:=p81) rfl rfl rfl fun e hl he=>?_;have h0_0:e.at 0=V.isl (a0.map Enc.enc):=he 0 _ rfl;have hl_0:e.length=16:=hl;clear he hl;have h_0:=ai hl_0 h0_0;show W A b81 e ⟨[],0⟩ _;unfold F81 at hF;obtain⟨t7,gt7,hF⟩:=bS hF;rcases t7 with _|r8
 ·dsimp only at hF
  simp only[simprocAttr,R0,b81,h_0];refine W.mono (l81_1 a0 gt7 (ei _ (ai rfl ?_))) ?_
  ·simp only[simprocAttr,R0,h_0]
  rintro _ e _ ⟨rfl,k2,rfl,hl_3⟩;cases hF;simp only[simprocAttr,R0,hl_3];exact fin_ret (by simp only[simprocAttr,R0,fn_out,p81,Rs.ev,take_len_self,hl_3])
 ·dsimp only at hF
  cases hF;simp only[simprocAttr,R0,b81,h_0];refine W.mono (l81_1 a0 gt7 (ei _ (ai rfl ?_))) ?_
  ·simp only[simprocAttr,R0,h_0]
  rintro _ e h ⟨rfl,hq⟩;simp only[simprocAttr,RR,RB];exact hq
def F39_1_B(a0:GComplex)(v3_1:Int)(s:Unit):Option ((Unit)⊕((Unit)⊕Bool)):=
 (getI a0.Dims v3_1).bind fun x10=>
(F54 x10 0 8).bind fun x12=>
if x12=true then
 some (.inl ())
else
 some (.inr (.inr false))
def F39_1_D(a0:GComplex)(v3_1:Int)(s:Unit):Option ((Unit)⊕Bool):=
 some (.inl ())
def F39_3_S(a0:GComplex)(v4_2:Int)(v5_3:Int):Option ((Int)⊕((Unit)⊕Bool)):=
 (getI a0.Maps v4_2).bind fun x29=>
if v5_3 < (x29.length:Int)then
 if 0 < v4_2 then
  (chk (v4_2 - 1)).bind fun x33=>
  (getI a0.Maps x33).bind fun x34=>
  (getI x29 v5_3).bind fun x36=>
  (getI a0.Dims x33).bind fun x38=>
  (F80 a0.Prime x34 x36 x38).bind fun x40=>
  (F81 x40).bind fun x42=>
  if 0≤x42 then
   some (.inr (.inr false))
  else
   (chk (v5_3+1)).bind fun x45=>
   some (.inl x45)
 else
  some (.inr (.inl ()))
else
 some (.inr (.inl ()))
def F39_2_B(a0:GComplex)(v4_2:Int)(s:Unit):Option ((Unit)⊕((Unit)⊕Bool)):=
 (getI a0.Maps v4_2).bind fun x18=>
(getI a0.Dims (v4_2+1)).bind fun x20=>
(getI a0.Dims v4_2).bind fun x22=>
(F79 a0.Prime x18 x20 x22).bind fun x24=>
if x24=true then
 (loopW (F39_3_S a0 v4_2) 0).bind fun t46=> match t46 with
  | .inl _=>
   some (.inl ())
  | .inr r47=> some (.inr (.inr r47))
else
 some (.inr (.inr false))
def F39_2_D(a0:GComplex)(v4_2:Int)(s:Unit):Option ((Unit)⊕Bool):=
 some (.inl ())
def F39(a0:GComplex):Option Bool:=
 (F78 a0.Prime).bind fun x1=>
 if x1=true then
  if(a0.Dims.length:Int) < 1 then
   some false
  else
   if 6 < (a0.Dims.length:Int)then
    some false
   else
    (chk ((a0.Dims.length:Int) - 1)).bind fun x5=>
    if(a0.Maps.length:Int)=x5 then
     (forR 0 (a0.Dims.length:Int) (F39_1_B a0) (F39_1_D a0) ()).bind fun t14=> match t14 with
      | .inl _=>
       (forR 0 (a0.Maps.length:Int) (F39_2_B a0) (F39_2_D a0) ()).bind fun t48=> match t48 with
        | .inl _=>
         some true
        | .inr r49=> some r49
      | .inr r50=> some r50
    else
     some false
 else
  some false
def I39_1(a0:GComplex)(v3_1:Int)(s:Unit)(e:Env)(h:Heap):Prop:=
 ∃k8:Nat,h=⟨[(0,none)],k8⟩∧e.length=112∧e.at 1=V.iptr [V.int .i64 a0.Prime,V.isl (a0.Dims.map Enc.enc),V.isl (a0.Maps.map Enc.enc)]∧e.at 3=V.int .i64 v3_1
def P39_1(a0:GComplex)(t:(Unit)⊕Bool)(x:Ex)(e:Env)(h:Heap):Prop:=
 match t with
 | .inl _=> x= .normal∧∃k8:Nat,h=⟨[(0,none)],k8⟩∧e.length=112∧e.at 1=V.iptr [V.int .i64 a0.Prime,V.isl (a0.Dims.map Enc.enc),V.isl (a0.Maps.map Enc.enc)]
 | .inr r=> x= .ret∧Fin p39 (Enc.enc r) .ret e h
theorem l39_1(a0:GComplex){lo:Int}{s:Unit}{t:(Unit)⊕Bool}(hF:forR lo (a0.Dims.length:Int) (F39_1_B a0) (F39_1_D a0) s=some t){e:Env}{h:Heap}(hI:I39_1 a0 lo s e h):W A c39_1 e h (P39_1 a0 t):=by
 show W A (.block 0 (.loop false b39_1)) e h _;rw[W_block];refine W_forR hF 1 (by obtain⟨_,rfl,_⟩:=hI; rfl) (I39_1 a0) hI ?_ ?_
 ·rintro v3_1 _ e h ⟨k8,rfl,h_7⟩ hlt hw o ho
  unfold F39_1_B at ho;obtain⟨x10,gx10,ho⟩:=bS ho;obtain⟨w11a,w11b⟩:=getI_w gx10;obtain⟨x12,gx12,ho⟩:=bS ho;have w13:ans A 54 [V.int .i64 x10,V.int .i64 0,V.int .i64 8]=some (V.bool x12):=s54 x10 0 8 gx12;cases x12 with
  |true=>
   rw[if_pos rfl]at ho;cases ho;simp only[simprocAttr,R0,b39_1,h_7,eq_true hlt,hw,w11a,w11b,w13];refine ai rfl (ei _ (ai rfl ?_));simp only[simprocAttr,R0,h_7,eq_true hlt,hw,w11a,w11b,w13]
  |false=>
   rw[if_neg Bool.false_ne_true]at ho;cases ho;simp only[simprocAttr,R0,b39_1,h_7,eq_true hlt,hw,w11a,w11b,w13];intro ht; subst ht;simp only[simprocAttr,RR,RB];exact ai rfl (fin_ret (by simp only[simprocAttr,R0,fn_out,p39,Rs.ev,take_len_self,h_7,eq_true hlt,hw,w11a,w11b,w13]))
 ·rintro v3_1 _ e h ⟨k8,rfl,h_7⟩ hge t1 ho
  unfold F39_1_D at ho;cases ho;simp only[simprocAttr,R0,b39_1,h_7,eq_false hge];intro ht; subst ht;refine ai rfl (ei _ (ai rfl ?_));simp only[simprocAttr,R0,h_7,eq_false hge]
def I39_3(a0:GComplex)(v4_2:Int)(v5_3:Int)(e:Env)(h:Heap):Prop:=
 ∃k27:Nat,h=⟨[(0,none)],k27⟩∧e.length=112∧e.at 1=V.iptr [V.int .i64 a0.Prime,V.isl (a0.Dims.map Enc.enc),V.isl (a0.Maps.map Enc.enc)]∧e.at 4=V.int .i64 v4_2∧e.at 5=V.int .i64 v5_3
def P39_3(a0:GComplex)(v4_2:Int)(t:(Unit)⊕Bool)(x:Ex)(e:Env)(h:Heap):Prop:=
 match t with
 | .inl _=> x= .normal∧∃k27:Nat,h=⟨[(0,none)],k27⟩∧e.length=112∧e.at 1=V.iptr [V.int .i64 a0.Prime,V.isl (a0.Dims.map Enc.enc),V.isl (a0.Maps.map Enc.enc)]∧e.at 4=V.int .i64 v4_2
 | .inr r=> x= .ret∧Fin p39 (Enc.enc r) .ret e h
theorem l39_3(a0:GComplex)(v4_2:Int){s:Int}{t:(Unit)⊕Bool}(hF:loopW (F39_3_S a0 v4_2) s=some t){e:Env}{h:Heap}(hI:I39_3 a0 v4_2 s e h):W A c39_3 e h (P39_3 a0 v4_2 t):=by
 show W A (.block 4 (.loop false b39_3)) e h _;rw[W_block];refine W_loop hF 1 (by obtain⟨_,rfl,_⟩:=hI; rfl) (I39_3 a0 v4_2) hI ?_
 ·rintro v5_3 e h ⟨k27,rfl,h_26⟩ o ho
  unfold F39_3_S at ho;obtain⟨x29,gx29,ho⟩:=bS ho;obtain⟨w30a,w30b⟩:=getI_w gx29;by_cases c31:v5_3 < (x29.length:Int)
  ·rw[if_pos c31]at ho
   by_cases c32:0 < v4_2
   ·rw[if_pos c32]at ho
    obtain⟨x33,gx33,ho⟩:=bS ho;have wx33:=chk_w gx33;obtain⟨x34,gx34,ho⟩:=bS ho;obtain⟨w35a,w35b⟩:=getI_w gx34;obtain⟨x36,gx36,ho⟩:=bS ho;obtain⟨w37a,w37b⟩:=getI_w gx36;obtain⟨x38,gx38,ho⟩:=bS ho;obtain⟨w39a,w39b⟩:=getI_w gx38;obtain⟨x40,gx40,ho⟩:=bS ho;have w41:ans A 80 [V.int .i64 a0.Prime,V.isl (x34.map Enc.enc),V.isl (x36.map Enc.enc),V.int .i64 x38]=some (V.isl (x40.map Enc.enc)):=s80 a0.Prime x34 x36 x38 gx40;obtain⟨x42,gx42,ho⟩:=bS ho;have w43:ans A 81 [V.isl (x40.map Enc.enc)]=some (V.int .i64 x42):=s81 x40 gx42;by_cases c44:0≤x42
    ·rw[if_pos c44]at ho
     cases ho;simp only[simprocAttr,R0,b39_3,h_26,w30a,w30b,eq_true c31,eq_true c32,wx33,w35a,w35b,w37a,w37b,w39a,w39b,w41,w43,eq_true c44];intro ht; subst ht;simp only[simprocAttr,RR,RB];exact ai rfl (fin_ret (by simp only[simprocAttr,R0,fn_out,p39,Rs.ev,take_len_self,h_26,w30a,w30b,eq_true c31,eq_true c32,wx33,w35a,w35b,w37a,w37b,w39a,w39b,w41,w43,eq_true c44]))
    ·rw[if_neg c44]at ho
     obtain⟨x45,gx45,ho⟩:=bS ho;have wx45:=chk_w gx45;cases ho;simp only[simprocAttr,R0,b39_3,h_26,w30a,w30b,eq_true c31,eq_true c32,wx33,w35a,w35b,w37a,w37b,w39a,w39b,w41,w43,eq_false c44,wx45];refine ai rfl (ei _ (ai rfl ?_));simp only[simprocAttr,R0,h_26,w30a,w30b,eq_true c31,eq_true c32,wx33,w35a,w35b,w37a,w37b,w39a,w39b,w41,w43,eq_false c44,wx45]
   ·rw[if_neg c32]at ho
    cases ho;simp only[simprocAttr,R0,b39_3,h_26,w30a,w30b,eq_true c31,eq_false c32];intro ht; subst ht;simp only[simprocAttr,RR,RB];refine ai rfl (ei _ (ai rfl ?_));simp only[simprocAttr,R0,h_26,w30a,w30b,eq_true c31,eq_false c32]
  ·rw[if_neg c31]at ho
   cases ho;simp only[simprocAttr,R0,b39_3,h_26,w30a,w30b,eq_false c31];intro ht; subst ht;simp only[simprocAttr,RR,RB];refine ai rfl (ei _ (ai rfl ?_));simp only[simprocAttr,R0,h_26,w30a,w30b,eq_false c31]
def I39_2(a0:GComplex)(v4_2:Int)(s:Unit)(e:Env)(h:Heap):Prop:=
 ∃k16:Nat,h=⟨[(0,none)],k16⟩∧e.length=112∧e.at 1=V.iptr [V.int .i64 a0.Prime,V.isl (a0.Dims.map Enc.enc),V.isl (a0.Maps.map Enc.enc)]∧e.at 4=V.int .i64 v4_2
def P39_2(a0:GComplex)(t:(Unit)⊕Bool)(x:Ex)(e:Env)(h:Heap):Prop:=
 match t with
 | .inl _=> x= .normal∧∃k16:Nat,h=⟨[(0,none)],k16⟩∧e.length=112
 | .inr r=> x= .ret∧Fin p39 (Enc.enc r) .ret e h
theorem l39_2(a0:GComplex){lo:Int}{s:Unit}{t:(Unit)⊕Bool}(hF:forR lo (a0.Maps.length:Int) (F39_2_B a0) (F39_2_D a0) s=some t){e:Env}{h:Heap}(hI:I39_2 a0 lo s e h):W A c39_2 e h (P39_2 a0 t):=by
 show W A (.block 2 (.loop false b39_2)) e h _;rw[W_block];refine W_forR hF 1 (by obtain⟨_,rfl,_⟩:=hI; rfl) (I39_2 a0) hI ?_ ?_
 ·rintro v4_2 _ e h ⟨k16,rfl,h_15⟩ hlt hw o ho
  unfold F39_2_B at ho;obtain⟨x18,gx18,ho⟩:=bS ho;obtain⟨w19a,w19b⟩:=getI_w gx18;obtain⟨x20,gx20,ho⟩:=bS ho;obtain⟨w21a,w21b⟩:=getI_w gx20;obtain⟨x22,gx22,ho⟩:=bS ho;obtain⟨w23a,w23b⟩:=getI_w gx22;obtain⟨x24,gx24,ho⟩:=bS ho;have w25:ans A 79 [V.int .i64 a0.Prime,V.isl (x18.map Enc.enc),V.int .i64 x20,V.int .i64 x22]=some (V.bool x24):=s79 a0.Prime x18 x20 x22 gx24;cases x24 with
  |true=>
   rw[if_pos rfl]at ho;obtain⟨t46,gt46,ho⟩:=bS ho;rcases t46 with _|r47
   ·dsimp only at ho
    simp only[simprocAttr,R0,b39_2,h_15,eq_true hlt,hw,w19a,w19b,w21a,w21b,w23a,w23b,w25];refine W.mono (l39_3 a0 v4_2 gt46 (ei _ (ai rfl ?_))) ?_
    ·simp only[simprocAttr,R0,h_15,eq_true hlt,hw,w19a,w19b,w21a,w21b,w23a,w23b,w25]
    rintro _ e _ ⟨rfl,k27,rfl,h_28⟩;cases ho;simp only[simprocAttr,R0,h_28,eq_true hlt,hw];refine ai rfl (ei _ (ai rfl ?_));simp only[simprocAttr,R0,h_28,eq_true hlt,hw]
   ·dsimp only at ho
    cases ho;simp only[simprocAttr,R0,b39_2,h_15,eq_true hlt,hw,w19a,w19b,w21a,w21b,w23a,w23b,w25];refine W.mono (l39_3 a0 v4_2 gt46 (ei _ (ai rfl ?_))) ?_
    ·simp only[simprocAttr,R0,h_15,eq_true hlt,hw,w19a,w19b,w21a,w21b,w23a,w23b,w25]
    rintro _ e h ⟨rfl,hq⟩;simp only[simprocAttr,RR,RB];intro ht; subst ht;simp only[simprocAttr,RR,RB];exact ai rfl hq
  |false=>
   rw[if_neg Bool.false_ne_true]at ho;cases ho;simp only[simprocAttr,R0,b39_2,h_15,eq_true hlt,hw,w19a,w19b,w21a,w21b,w23a,w23b,w25];intro ht; subst ht;simp only[simprocAttr,RR,RB];exact ai rfl (fin_ret (by simp only[simprocAttr,R0,fn_out,p39,Rs.ev,take_len_self,h_15,eq_true hlt,hw,w19a,w19b,w21a,w21b,w23a,w23b,w25]))
 ·rintro v4_2 _ e h ⟨k16,rfl,h_15⟩ hge t1 ho
  unfold F39_2_D at ho;cases ho;simp only[simprocAttr,R0,b39_2,h_15,eq_false hge];intro ht; subst ht;refine ai rfl (ei _ (ai rfl ?_));simp only[simprocAttr,R0,h_15,eq_false hge]
theorem s39(a0:GComplex){r:Bool}(hF:F39 a0=some r):ans A 39 [(eC a0)]=some (Enc.enc r):=by
 refine ans_of (f:=p39) rfl rfl rfl fun e hl he=>?_;have h0_0:e.at 0=(eC a0):=he 0 _ rfl;have hl_0:e.length=112:=hl;clear he hl;have h_0:=ai hl_0 h0_0;show W A b39 e ⟨[],0⟩ _;unfold F39 at hF;obtain⟨x1,gx1,hF⟩:=bS hF;have w2:ans A 78 [V.int .i64 a0.Prime]=some (V.bool x1):=s78 a0.Prime gx1;cases x1 with
 |true=>
  rw[if_pos rfl]at hF;by_cases c3:(a0.Dims.length:Int) < 1
  ·rw[if_pos c3]at hF
   cases hF;simp only[simprocAttr,R0,b39,h_0,w2,eq_true c3];exact fin_ret (by simp only[simprocAttr,R0,fn_out,p39,Rs.ev,take_len_self,h_0,w2,eq_true c3])
  ·rw[if_neg c3]at hF
   by_cases c4:6 < (a0.Dims.length:Int)
   ·rw[if_pos c4]at hF
    cases hF;simp only[simprocAttr,R0,b39,h_0,w2,eq_false c3,eq_true c4];exact fin_ret (by simp only[simprocAttr,R0,fn_out,p39,Rs.ev,take_len_self,h_0,w2,eq_false c3,eq_true c4])
   ·rw[if_neg c4]at hF
    obtain⟨x5,gx5,hF⟩:=bS hF;have wx5:=chk_w gx5;by_cases c6:(a0.Maps.length:Int)=x5
    ·rw[if_pos c6]at hF
     obtain⟨t14,gt14,hF⟩:=bS hF;rcases t14 with _|r50
     ·dsimp only at hF
      simp only[simprocAttr,R0,b39,h_0,w2,eq_false c3,eq_false c4,wx5,eq_true c6];refine W.mono (l39_1 a0 gt14 (ei _ (ai rfl ?_))) ?_
      ·simp only[simprocAttr,R0,h_0,w2,eq_false c3,eq_false c4,wx5,eq_true c6]
      rintro _ e _ ⟨rfl,k8,rfl,h_9⟩;obtain⟨t48,gt48,hF⟩:=bS hF;rcases t48 with _|r49
      ·dsimp only at hF
       simp only[simprocAttr,R0,h_9,eq_false c3,eq_false c4,eq_true c6];refine W.mono (l39_2 a0 gt48 (ei _ (ai rfl ?_))) ?_
       ·simp only[simprocAttr,R0,h_9,eq_false c3,eq_false c4,eq_true c6]
       rintro _ e _ ⟨rfl,k16,rfl,hl_17⟩;cases hF;simp only[simprocAttr,R0,hl_17,eq_false c3,eq_false c4,eq_true c6];exact fin_ret (by simp only[simprocAttr,R0,fn_out,p39,Rs.ev,take_len_self,hl_17,eq_false c3,eq_false c4,eq_true c6])
      ·dsimp only at hF
       cases hF;simp only[simprocAttr,R0,h_9,eq_false c3,eq_false c4,eq_true c6];refine W.mono (l39_2 a0 gt48 (ei _ (ai rfl ?_))) ?_
       ·simp only[simprocAttr,R0,h_9,eq_false c3,eq_false c4,eq_true c6]
       rintro _ e h ⟨rfl,hq⟩;simp only[simprocAttr,RR,RB];exact hq
     ·dsimp only at hF
      cases hF;simp only[simprocAttr,R0,b39,h_0,w2,eq_false c3,eq_false c4,wx5,eq_true c6];refine W.mono (l39_1 a0 gt14 (ei _ (ai rfl ?_))) ?_
      ·simp only[simprocAttr,R0,h_0,w2,eq_false c3,eq_false c4,wx5,eq_true c6]
      rintro _ e h ⟨rfl,hq⟩;simp only[simprocAttr,RR,RB];exact hq
    ·rw[if_neg c6]at hF
     cases hF;simp only[simprocAttr,R0,b39,h_0,w2,eq_false c3,eq_false c4,wx5,eq_false c6];exact fin_ret (by simp only[simprocAttr,R0,fn_out,p39,Rs.ev,take_len_self,h_0,w2,eq_false c3,eq_false c4,wx5,eq_false c6])
 |false=>
  rw[if_neg Bool.false_ne_true]at hF;cases hF;simp only[simprocAttr,R0,b39,h_0,w2];exact fin_ret (by simp only[simprocAttr,R0,fn_out,p39,Rs.ev,take_len_self,h_0,w2])
def F302(a0:GComplex)(a1:GComplex):Option Int:=
 (F39 a0).bind fun x1=>
 if x1=true then
  (F39 a1).bind fun x3=>
  if x3=true then
   if a0.Prime=a1.Prime then
    if(a0.Dims.length:Int)=(a1.Dims.length:Int)then
     some 0
    else
     some 2
   else
    some 2
  else
   some 1
 else
  some 1
theorem s302(a0:GComplex)(a1:GComplex){r:Int}(hF:F302 a0 a1=some r):ans A 302 [(eC a0),(eC a1)]=some (Enc.enc r):=by
 refine ans_of (f:=p302) rfl rfl rfl fun e hl he=>?_;have h0_0:e.at 0=(eC a0):=he 0 _ rfl;have h1_0:e.at 1=(eC a1):=he 1 _ rfl;have hl_0:e.length=29:=hl;clear he hl;have h_0:=ai hl_0 (ai h0_0 h1_0);show W A b302 e ⟨[],0⟩ _;unfold F302 at hF;obtain⟨x1,gx1,hF⟩:=bS hF;have w2:ans A 39 [(eC a0)]=some (V.bool x1):=s39 a0 gx1;cases x1 with
 |true=>
  rw[if_pos rfl]at hF;obtain⟨x3,gx3,hF⟩:=bS hF;have w4:ans A 39 [(eC a1)]=some (V.bool x3):=s39 a1 gx3;cases x3 with
  |true=>
   rw[if_pos rfl]at hF;by_cases c5:a0.Prime=a1.Prime
   ·rw[if_pos c5]at hF
    by_cases c6:(a0.Dims.length:Int)=(a1.Dims.length:Int)
    ·rw[if_pos c6]at hF
     cases hF;simp only[simprocAttr,R0,b302,h_0,w2,w4,eq_true c5,eq_true c6];exact fin_ret (by simp only[simprocAttr,R0,fn_out,p302,Rs.ev,take_len_self,h_0,w2,w4,eq_true c5,eq_true c6])
    ·rw[if_neg c6]at hF
     cases hF;simp only[simprocAttr,R0,b302,h_0,w2,w4,eq_true c5,eq_false c6];exact fin_ret (by simp only[simprocAttr,R0,fn_out,p302,Rs.ev,take_len_self,h_0,w2,w4,eq_true c5,eq_false c6])
   ·rw[if_neg c5]at hF
    cases hF;simp only[simprocAttr,R0,b302,h_0,w2,w4,eq_false c5];exact fin_ret (by simp only[simprocAttr,R0,fn_out,p302,Rs.ev,take_len_self,h_0,w2,w4,eq_false c5])
  |false=>
   rw[if_neg Bool.false_ne_true]at hF;cases hF;simp only[simprocAttr,R0,b302,h_0,w2,w4];exact fin_ret (by simp only[simprocAttr,R0,fn_out,p302,Rs.ev,take_len_self,h_0,w2,w4])
 |false=>
  rw[if_neg Bool.false_ne_true]at hF;cases hF;simp only[simprocAttr,R0,b302,h_0,w2];exact fin_ret (by simp only[simprocAttr,R0,fn_out,p302,Rs.ev,take_len_self,h_0,w2])
def F99(a0:GComplex)(a1:Int):Option Int:=
 (chk ((a0.Dims.length:Int) - 1)).bind fun x1=>
 (F54 a1 0 x1).bind fun x2=>
 if x2=true then
  (getI a0.Dims a1).bind fun x4=>
  some x4
 else
  some 0
theorem s99(a0:GComplex)(a1:Int){r:Int}(hF:F99 a0 a1=some r):ans A 99 [(eC a0),V.int .i64 a1]=some (Enc.enc r):=by
 refine ans_of (f:=p99) rfl rfl rfl fun e hl he=>?_;have h0_0:e.at 0=(eC a0):=he 0 _ rfl;have h1_0:e.at 1=V.int .i64 a1:=he 1 _ rfl;have hl_0:e.length=17:=hl;clear he hl;have h_0:=ai hl_0 (ai h0_0 h1_0);show W A b99 e ⟨[],0⟩ _;unfold F99 at hF;obtain⟨x1,gx1,hF⟩:=bS hF;have wx1:=chk_w gx1;obtain⟨x2,gx2,hF⟩:=bS hF;have w3:ans A 54 [V.int .i64 a1,V.int .i64 0,V.int .i64 x1]=some (V.bool x2):=s54 a1 0 x1 gx2;cases x2 with
 |true=>
  rw[if_pos rfl]at hF;obtain⟨x4,gx4,hF⟩:=bS hF;obtain⟨w5a,w5b⟩:=getI_w gx4;cases hF;simp only[simprocAttr,R0,b99,h_0,wx1,w3,w5a,w5b];exact fin_ret (by simp only[simprocAttr,R0,fn_out,p99,Rs.ev,take_len_self,h_0,wx1,w3,w5a,w5b])
 |false=>
  rw[if_neg Bool.false_ne_true]at hF;cases hF;simp only[simprocAttr,R0,b99,h_0,wx1,w3];exact fin_ret (by simp only[simprocAttr,R0,fn_out,p99,Rs.ev,take_len_self,h_0,wx1,w3])
def F303_3_S(a0:GComplex)(a1:GComplex)(a2:List (List (List Int)))(a3:Int)(v9_1:Int)(v10_2:Int)(v11_3:Int):Option ((Int)⊕((Unit)⊕Bool)):=
 (getI a2 v9_1).bind fun x25=>
(getI x25 v10_2).bind fun x27=>
if v11_3 < (x27.length:Int)then
 (getI x27 v11_3).bind fun x30=>
 (chk (a0.Prime - 1)).bind fun x32=>
 (F54 x30 0 x32).bind fun x33=>
 if x33=true then
  (chk (v11_3+1)).bind fun x35=>
  some (.inl x35)
 else
  some (.inr (.inr false))
else
 some (.inr (.inl ()))
def F303_2_S(a0:GComplex)(a1:GComplex)(a2:List (List (List Int)))(a3:Int)(v9_1:Int)(v10_2:Int):Option ((Int)⊕((Unit)⊕Bool)):=
 (getI a2 v9_1).bind fun x13=>
if v10_2 < (x13.length:Int)then
 (getI x13 v10_2).bind fun x16=>
 (chk (v9_1+a3)).bind fun x18=>
 (F99 a1 x18).bind fun x19=>
 if(x16.length:Int)=x19 then
  (loopW (F303_3_S a0 a1 a2 a3 v9_1 v10_2) 0).bind fun t36=> match t36 with
   | .inl _=>
    (chk (v10_2+1)).bind fun x37=>
    some (.inl x37)
   | .inr r38=> some (.inr (.inr r38))
 else
  some (.inr (.inr false))
else
 some (.inr (.inl ()))
def F303_1_B(a0:GComplex)(a1:GComplex)(a2:List (List (List Int)))(a3:Int)(v9_1:Int)(s:Unit):Option ((Unit)⊕((Unit)⊕Bool)):=
 (getI a2 v9_1).bind fun x5=>
(getI a0.Dims v9_1).bind fun x7=>
if(x5.length:Int)=x7 then
 (loopW (F303_2_S a0 a1 a2 a3 v9_1) 0).bind fun t39=> match t39 with
  | .inl _=>
   some (.inl ())
  | .inr r40=> some (.inr (.inr r40))
else
 some (.inr (.inr false))
def F303_1_D(a0:GComplex)(a1:GComplex)(a2:List (List (List Int)))(a3:Int)(v9_1:Int)(s:Unit):Option ((Unit)⊕Bool):=
 some (.inl ())
def F303(a0:GComplex)(a1:GComplex)(a2:List (List (List Int)))(a3:Int):Option Bool:=
 if(a2.length:Int)=(a0.Dims.length:Int)then
  (forR 0 (a2.length:Int) (F303_1_B a0 a1 a2 a3) (F303_1_D a0 a1 a2 a3) ()).bind fun t41=> match t41 with
   | .inl _=>
    some true
   | .inr r42=> some r42
 else
  some false
def I303_3(a0:GComplex)(a1:GComplex)(a2:List (List (List Int)))(a3:Int)(v9_1:Int)(v10_2:Int)(v11_3:Int)(e:Env)(h:Heap):Prop:=
 ∃k23:Nat,h=⟨[(0,none),(0,none)],k23⟩∧e.length=85∧e.at 2=V.isl (a2.map Enc.enc)∧e.at 3=V.int .i64 a3∧e.at 4=V.iptr [V.int .i64 a0.Prime,V.isl (a0.Dims.map Enc.enc),V.isl (a0.Maps.map Enc.enc)]∧e.at 5=V.iptr [V.int .i64 a1.Prime,V.isl (a1.Dims.map Enc.enc),V.isl (a1.Maps.map Enc.enc)]∧e.at 9=V.int .i64 v9_1∧e.at 10=V.int .i64 v10_2∧e.at 11=V.int .i64 v11_3
def P303_3(a0:GComplex)(a1:GComplex)(a2:List (List (List Int)))(a3:Int)(v9_1:Int)(v10_2:Int)(t:(Unit)⊕Bool)(x:Ex)(e:Env)(h:Heap):Prop:=
 match t with
 | .inl _=> x= .normal∧∃k23:Nat,h=⟨[(0,none),(0,none)],k23⟩∧e.length=85∧e.at 2=V.isl (a2.map Enc.enc)∧e.at 3=V.int .i64 a3∧e.at 4=V.iptr [V.int .i64 a0.Prime,V.isl (a0.Dims.map Enc.enc),V.isl (a0.Maps.map Enc.enc)]∧e.at 5=V.iptr [V.int .i64 a1.Prime,V.isl (a1.Dims.map Enc.enc),V.isl (a1.Maps.map Enc.enc)]∧e.at 9=V.int .i64 v9_1∧e.at 10=V.int .i64 v10_2
 | .inr r=> x= .ret∧Fin p303 (Enc.enc r) .ret e h
theorem l303_3(a0:GComplex)(a1:GComplex)(a2:List (List (List Int)))(a3:Int)(v9_1:Int)(v10_2:Int){s:Int}{t:(Unit)⊕Bool}(hF:loopW (F303_3_S a0 a1 a2 a3 v9_1 v10_2) s=some t){e:Env}{h:Heap}(hI:I303_3 a0 a1 a2 a3 v9_1 v10_2 s e h):W A c303_3 e h (P303_3 a0 a1 a2 a3 v9_1 v10_2 t):=by
 show W A (.block 4 (.loop false b303_3)) e h _;rw[W_block];refine W_loop hF 2 (by obtain⟨_,rfl,_⟩:=hI; rfl) (I303_3 a0 a1 a2 a3 v9_1 v10_2) hI ?_
 ·rintro v11_3 e h ⟨k23,rfl,h_22⟩ o ho
  unfold F303_3_S at ho;obtain⟨x25,gx25,ho⟩:=bS ho;obtain⟨w26a,w26b⟩:=getI_w gx25;obtain⟨x27,gx27,ho⟩:=bS ho;obtain⟨w28a,w28b⟩:=getI_w gx27;by_cases c29:v11_3 < (x27.length:Int)
  ·rw[if_pos c29]at ho
   obtain⟨x30,gx30,ho⟩:=bS ho;obtain⟨w31a,w31b⟩:=getI_w gx30;obtain⟨x32,gx32,ho⟩:=bS ho;have wx32:=chk_w gx32;obtain⟨x33,gx33,ho⟩:=bS ho;have w34:ans A 54 [V.int .i64 x30,V.int .i64 0,V.int .i64 x32]=some (V.bool x33):=s54 x30 0 x32 gx33;cases x33 with
   |true=>
    rw[if_pos rfl]at ho;obtain⟨x35,gx35,ho⟩:=bS ho;have wx35:=chk_w gx35;cases ho;simp only[simprocAttr,R0,b303_3,h_22,w26a,w26b,w28a,w28b,eq_true c29,w31a,w31b,wx32,w34,wx35];refine ai rfl (ei _ (ai rfl ?_));simp only[simprocAttr,R0,h_22,w26a,w26b,w28a,w28b,eq_true c29,w31a,w31b,wx32,w34,wx35]
   |false=>
    rw[if_neg Bool.false_ne_true]at ho;cases ho;simp only[simprocAttr,R0,b303_3,h_22,w26a,w26b,w28a,w28b,eq_true c29,w31a,w31b,wx32,w34];intro ht; subst ht;simp only[simprocAttr,RR,RB];exact ai rfl (fin_ret (by simp only[simprocAttr,R0,fn_out,p303,Rs.ev,take_len_self,h_22,w26a,w26b,w28a,w28b,eq_true c29,w31a,w31b,wx32,w34]))
  ·rw[if_neg c29]at ho
   cases ho;simp only[simprocAttr,R0,b303_3,h_22,w26a,w26b,w28a,w28b,eq_false c29];intro ht; subst ht;simp only[simprocAttr,RR,RB];refine ai rfl (ei _ (ai rfl ?_));simp only[simprocAttr,R0,h_22,w26a,w26b,w28a,w28b,eq_false c29]
def I303_2(a0:GComplex)(a1:GComplex)(a2:List (List (List Int)))(a3:Int)(v9_1:Int)(v10_2:Int)(e:Env)(h:Heap):Prop:=
 ∃k11:Nat,h=⟨[(0,none),(0,none)],k11⟩∧e.length=85∧e.at 2=V.isl (a2.map Enc.enc)∧e.at 3=V.int .i64 a3∧e.at 4=V.iptr [V.int .i64 a0.Prime,V.isl (a0.Dims.map Enc.enc),V.isl (a0.Maps.map Enc.enc)]∧e.at 5=V.iptr [V.int .i64 a1.Prime,V.isl (a1.Dims.map Enc.enc),V.isl (a1.Maps.map Enc.enc)]∧e.at 9=V.int .i64 v9_1∧e.at 10=V.int .i64 v10_2
def P303_2(a0:GComplex)(a1:GComplex)(a2:List (List (List Int)))(a3:Int)(v9_1:Int)(t:(Unit)⊕Bool)(x:Ex)(e:Env)(h:Heap):Prop:=
 match t with
 | .inl _=> x= .normal∧∃k11:Nat,h=⟨[(0,none),(0,none)],k11⟩∧e.length=85∧e.at 2=V.isl (a2.map Enc.enc)∧e.at 3=V.int .i64 a3∧e.at 4=V.iptr [V.int .i64 a0.Prime,V.isl (a0.Dims.map Enc.enc),V.isl (a0.Maps.map Enc.enc)]∧e.at 5=V.iptr [V.int .i64 a1.Prime,V.isl (a1.Dims.map Enc.enc),V.isl (a1.Maps.map Enc.enc)]∧e.at 9=V.int .i64 v9_1
 | .inr r=> x= .ret∧Fin p303 (Enc.enc r) .ret e h
theorem l303_2(a0:GComplex)(a1:GComplex)(a2:List (List (List Int)))(a3:Int)(v9_1:Int){s:Int}{t:(Unit)⊕Bool}(hF:loopW (F303_2_S a0 a1 a2 a3 v9_1) s=some t){e:Env}{h:Heap}(hI:I303_2 a0 a1 a2 a3 v9_1 s e h):W A c303_2 e h (P303_2 a0 a1 a2 a3 v9_1 t):=by
 show W A (.block 2 (.loop false b303_2)) e h _;rw[W_block];refine W_loop hF 2 (by obtain⟨_,rfl,_⟩:=hI; rfl) (I303_2 a0 a1 a2 a3 v9_1) hI ?_
 ·rintro v10_2 e h ⟨k11,rfl,h_10⟩ o ho
  unfold F303_2_S at ho;obtain⟨x13,gx13,ho⟩:=bS ho;obtain⟨w14a,w14b⟩:=getI_w gx13;by_cases c15:v10_2 < (x13.length:Int)
  ·rw[if_pos c15]at ho
   obtain⟨x16,gx16,ho⟩:=bS ho;obtain⟨w17a,w17b⟩:=getI_w gx16;obtain⟨x18,gx18,ho⟩:=bS ho;have wx18:=chk_w gx18;obtain⟨x19,gx19,ho⟩:=bS ho;have w20:ans A 99 [(eC a1),V.int .i64 x18]=some (V.int .i64 x19):=s99 a1 x18 gx19;by_cases c21:(x16.length:Int)=x19
   ·rw[if_pos c21]at ho
    obtain⟨t36,gt36,ho⟩:=bS ho;rcases t36 with _|r38
    ·dsimp only at ho
     simp only[simprocAttr,R0,b303_2,h_10,w14a,w14b,eq_true c15,w17a,w17b,wx18,w20,eq_true c21];refine W.mono (l303_3 a0 a1 a2 a3 v9_1 v10_2 gt36 (ei _ (ai rfl ?_))) ?_
     ·simp only[simprocAttr,R0,h_10,w14a,w14b,eq_true c15,w17a,w17b,wx18,w20,eq_true c21]
     rintro _ e _ ⟨rfl,k23,rfl,h_24⟩;obtain⟨x37,gx37,ho⟩:=bS ho;have wx37:=chk_w gx37;cases ho;simp only[simprocAttr,R0,h_24,eq_true c15,eq_true c21,wx37];refine ai rfl (ei _ (ai rfl ?_));simp only[simprocAttr,R0,h_24,eq_true c15,eq_true c21,wx37]
    ·dsimp only at ho
     cases ho;simp only[simprocAttr,R0,b303_2,h_10,w14a,w14b,eq_true c15,w17a,w17b,wx18,w20,eq_true c21];refine W.mono (l303_3 a0 a1 a2 a3 v9_1 v10_2 gt36 (ei _ (ai rfl ?_))) ?_
     ·simp only[simprocAttr,R0,h_10,w14a,w14b,eq_true c15,w17a,w17b,wx18,w20,eq_true c21]
     rintro _ e h ⟨rfl,hq⟩;simp only[simprocAttr,RR,RB];intro ht; subst ht;simp only[simprocAttr,RR,RB];exact ai rfl hq
   ·rw[if_neg c21]at ho
    cases ho;simp only[simprocAttr,R0,b303_2,h_10,w14a,w14b,eq_true c15,w17a,w17b,wx18,w20,eq_false c21];intro ht; subst ht;simp only[simprocAttr,RR,RB];exact ai rfl (fin_ret (by simp only[simprocAttr,R0,fn_out,p303,Rs.ev,take_len_self,h_10,w14a,w14b,eq_true c15,w17a,w17b,wx18,w20,eq_false c21]))
  ·rw[if_neg c15]at ho
   cases ho;simp only[simprocAttr,R0,b303_2,h_10,w14a,w14b,eq_false c15];intro ht; subst ht;simp only[simprocAttr,RR,RB];refine ai rfl (ei _ (ai rfl ?_));simp only[simprocAttr,R0,h_10,w14a,w14b,eq_false c15]
def I303_1(a0:GComplex)(a1:GComplex)(a2:List (List (List Int)))(a3:Int)(v9_1:Int)(s:Unit)(e:Env)(h:Heap):Prop:=
 ∃k3:Nat,h=⟨[(0,none),(0,none)],k3⟩∧e.length=85∧e.at 2=V.isl (a2.map Enc.enc)∧e.at 3=V.int .i64 a3∧e.at 4=V.iptr [V.int .i64 a0.Prime,V.isl (a0.Dims.map Enc.enc),V.isl (a0.Maps.map Enc.enc)]∧e.at 5=V.iptr [V.int .i64 a1.Prime,V.isl (a1.Dims.map Enc.enc),V.isl (a1.Maps.map Enc.enc)]∧e.at 9=V.int .i64 v9_1
def P303_1(a0:GComplex)(a1:GComplex)(a2:List (List (List Int)))(a3:Int)(t:(Unit)⊕Bool)(x:Ex)(e:Env)(h:Heap):Prop:=
 match t with
 | .inl _=> x= .normal∧∃k3:Nat,h=⟨[(0,none),(0,none)],k3⟩∧e.length=85
 | .inr r=> x= .ret∧Fin p303 (Enc.enc r) .ret e h
theorem l303_1(a0:GComplex)(a1:GComplex)(a2:List (List (List Int)))(a3:Int){lo:Int}{s:Unit}{t:(Unit)⊕Bool}(hF:forR lo (a2.length:Int) (F303_1_B a0 a1 a2 a3) (F303_1_D a0 a1 a2 a3) s=some t){e:Env}{h:Heap}(hI:I303_1 a0 a1 a2 a3 lo s e h):W A c303_1 e h (P303_1 a0 a1 a2 a3 t):=by
 show W A (.block 0 (.loop false b303_1)) e h _;rw[W_block];refine W_forR hF 2 (by obtain⟨_,rfl,_⟩:=hI; rfl) (I303_1 a0 a1 a2 a3) hI ?_ ?_
 ·rintro v9_1 _ e h ⟨k3,rfl,h_2⟩ hlt hw o ho
  unfold F303_1_B at ho;obtain⟨x5,gx5,ho⟩:=bS ho;obtain⟨w6a,w6b⟩:=getI_w gx5;obtain⟨x7,gx7,ho⟩:=bS ho;obtain⟨w8a,w8b⟩:=getI_w gx7;by_cases c9:(x5.length:Int)=x7
  ·rw[if_pos c9]at ho
   obtain⟨t39,gt39,ho⟩:=bS ho;rcases t39 with _|r40
   ·dsimp only at ho
    simp only[simprocAttr,R0,b303_1,h_2,eq_true hlt,hw,w6a,w6b,w8a,w8b,eq_true c9];refine W.mono (l303_2 a0 a1 a2 a3 v9_1 gt39 (ei _ (ai rfl ?_))) ?_
    ·simp only[simprocAttr,R0,h_2,eq_true hlt,hw,w6a,w6b,w8a,w8b,eq_true c9]
    rintro _ e _ ⟨rfl,k11,rfl,h_12⟩;cases ho;simp only[simprocAttr,R0,h_12,eq_true hlt,hw,eq_true c9];refine ai rfl (ei _ (ai rfl ?_));simp only[simprocAttr,R0,h_12,eq_true hlt,hw,eq_true c9]
   ·dsimp only at ho
    cases ho;simp only[simprocAttr,R0,b303_1,h_2,eq_true hlt,hw,w6a,w6b,w8a,w8b,eq_true c9];refine W.mono (l303_2 a0 a1 a2 a3 v9_1 gt39 (ei _ (ai rfl ?_))) ?_
    ·simp only[simprocAttr,R0,h_2,eq_true hlt,hw,w6a,w6b,w8a,w8b,eq_true c9]
    rintro _ e h ⟨rfl,hq⟩;simp only[simprocAttr,RR,RB];intro ht; subst ht;simp only[simprocAttr,RR,RB];exact ai rfl hq
  ·rw[if_neg c9]at ho
   cases ho;simp only[simprocAttr,R0,b303_1,h_2,eq_true hlt,hw,w6a,w6b,w8a,w8b,eq_false c9];intro ht; subst ht;simp only[simprocAttr,RR,RB];exact ai rfl (fin_ret (by simp only[simprocAttr,R0,fn_out,p303,Rs.ev,take_len_self,h_2,eq_true hlt,hw,w6a,w6b,w8a,w8b,eq_false c9]))
 ·rintro v9_1 _ e h ⟨k3,rfl,h_2⟩ hge t1 ho
  unfold F303_1_D at ho;cases ho;simp only[simprocAttr,R0,b303_1,h_2,eq_false hge];intro ht; subst ht;refine ai rfl (ei _ (ai rfl ?_));simp only[simprocAttr,R0,h_2,eq_false hge]
theorem s303(a0:GComplex)(a1:GComplex)(a2:List (List (List Int)))(a3:Int){r:Bool}(hF:F303 a0 a1 a2 a3=some r):ans A 303 [(eC a0),(eC a1),V.isl (a2.map Enc.enc),V.int .i64 a3]=some (Enc.enc r):=by
 refine ans_of (f:=p303) rfl rfl rfl fun e hl he=>?_;have h0_0:e.at 0=(eC a0):=he 0 _ rfl;have h1_0:e.at 1=(eC a1):=he 1 _ rfl;have h2_0:e.at 2=V.isl (a2.map Enc.enc):=he 2 _ rfl;have h3_0:e.at 3=V.int .i64 a3:=he 3 _ rfl;have hl_0:e.length=85:=hl;clear he hl;have h_0:=ai hl_0 (ai h0_0 (ai h1_0 (ai h2_0 h3_0)));show W A b303 e ⟨[],0⟩ _;unfold F303 at hF;by_cases c1:(a2.length:Int)=(a0.Dims.length:Int)
 ·rw[if_pos c1]at hF
  obtain⟨t41,gt41,hF⟩:=bS hF;rcases t41 with _|r42
  ·dsimp only at hF
   simp only[simprocAttr,R0,b303,h_0,eq_true c1];refine W.mono (l303_1 a0 a1 a2 a3 gt41 (ei _ (ai rfl ?_))) ?_
   ·simp only[simprocAttr,R0,h_0,eq_true c1]
   rintro _ e _ ⟨rfl,k3,rfl,hl_4⟩;cases hF;simp only[simprocAttr,R0,hl_4,eq_true c1];exact fin_ret (by simp only[simprocAttr,R0,fn_out,p303,Rs.ev,take_len_self,hl_4,eq_true c1])
  ·dsimp only at hF
   cases hF;simp only[simprocAttr,R0,b303,h_0,eq_true c1];refine W.mono (l303_1 a0 a1 a2 a3 gt41 (ei _ (ai rfl ?_))) ?_
   ·simp only[simprocAttr,R0,h_0,eq_true c1]
   rintro _ e h ⟨rfl,hq⟩;simp only[simprocAttr,RR,RB];exact hq
 ·rw[if_neg c1]at hF
  cases hF;simp only[simprocAttr,R0,b303,h_0,eq_false c1];exact fin_ret (by simp only[simprocAttr,R0,fn_out,p303,Rs.ev,take_len_self,h_0,eq_false c1])
def F270_1_B(a0:GComplex)(a1:GComplex)(a2:List (List (List (List Int))))(v8_1:Int)(s:Unit):Option ((Unit)⊕((Unit)⊕Int)):=
 (getI a2 v8_1).bind fun x7=>
(F303 a0 a1 x7 0).bind fun x9=>
if x9=true then
 some (.inl ())
else
 some (.inr (.inr 2))
def F270_1_D(a0:GComplex)(a1:GComplex)(a2:List (List (List (List Int))))(v8_1:Int)(s:Unit):Option ((Unit)⊕Int):=
 some (.inl ())
def F270(a0:GComplex)(a1:GComplex)(a2:List (List (List (List Int)))):Option Int:=
 (F302 a0 a1).bind fun x1=>
 if x1=0 then
  (forR 0 (a2.length:Int) (F270_1_B a0 a1 a2) (F270_1_D a0 a1 a2) ()).bind fun t11=> match t11 with
   | .inl _=>
    some 0
   | .inr r12=> some r12
 else
  some x1
def I270_1(a0:GComplex)(a1:GComplex)(a2:List (List (List (List Int))))(v8_1:Int)(s:Unit)(e:Env)(h:Heap):Prop:=
 ∃k5:Nat,h=⟨[(0,none),(0,none)],k5⟩∧e.length=29∧e.at 2=V.isl (a2.map Enc.enc)∧e.at 3=V.iptr [V.int .i64 a0.Prime,V.isl (a0.Dims.map Enc.enc),V.isl (a0.Maps.map Enc.enc)]∧e.at 4=V.iptr [V.int .i64 a1.Prime,V.isl (a1.Dims.map Enc.enc),V.isl (a1.Maps.map Enc.enc)]∧e.at 8=V.int .i64 v8_1
def P270_1(a0:GComplex)(a1:GComplex)(a2:List (List (List (List Int))))(t:(Unit)⊕Int)(x:Ex)(e:Env)(h:Heap):Prop:=
 match t with
 | .inl _=> x= .normal∧∃k5:Nat,h=⟨[(0,none),(0,none)],k5⟩∧e.length=29
 | .inr r=> x= .ret∧Fin p270 (Enc.enc r) .ret e h
theorem l270_1(a0:GComplex)(a1:GComplex)(a2:List (List (List (List Int)))){lo:Int}{s:Unit}{t:(Unit)⊕Int}(hF:forR lo (a2.length:Int) (F270_1_B a0 a1 a2) (F270_1_D a0 a1 a2) s=some t){e:Env}{h:Heap}(hI:I270_1 a0 a1 a2 lo s e h):W A c270_1 e h (P270_1 a0 a1 a2 t):=by
 show W A (.block 0 (.loop false b270_1)) e h _;rw[W_block];refine W_forR hF 2 (by obtain⟨_,rfl,_⟩:=hI; rfl) (I270_1 a0 a1 a2) hI ?_ ?_
 ·rintro v8_1 _ e h ⟨k5,rfl,h_4⟩ hlt hw o ho
  unfold F270_1_B at ho;obtain⟨x7,gx7,ho⟩:=bS ho;obtain⟨w8a,w8b⟩:=getI_w gx7;obtain⟨x9,gx9,ho⟩:=bS ho;have w10:ans A 303 [(eC a0),(eC a1),V.isl (x7.map Enc.enc),V.int .i64 0]=some (V.bool x9):=s303 a0 a1 x7 0 gx9;cases x9 with
  |true=>
   rw[if_pos rfl]at ho;cases ho;simp only[simprocAttr,R0,b270_1,h_4,eq_true hlt,hw,w8a,w8b,w10];refine ai rfl (ei _ (ai rfl ?_));simp only[simprocAttr,R0,h_4,eq_true hlt,hw,w8a,w8b,w10]
  |false=>
   rw[if_neg Bool.false_ne_true]at ho;cases ho;simp only[simprocAttr,R0,b270_1,h_4,eq_true hlt,hw,w8a,w8b,w10];intro ht; subst ht;simp only[simprocAttr,RR,RB];exact ai rfl (fin_ret (by simp only[simprocAttr,R0,fn_out,p270,Rs.ev,take_len_self,h_4,eq_true hlt,hw,w8a,w8b,w10]))
 ·rintro v8_1 _ e h ⟨k5,rfl,h_4⟩ hge t1 ho
  unfold F270_1_D at ho;cases ho;simp only[simprocAttr,R0,b270_1,h_4,eq_false hge];intro ht; subst ht;refine ai rfl (ei _ (ai rfl ?_));simp only[simprocAttr,R0,h_4,eq_false hge]
theorem s270(a0:GComplex)(a1:GComplex)(a2:List (List (List (List Int)))){r:Int}(hF:F270 a0 a1 a2=some r):ans A 270 [(eC a0),(eC a1),V.isl (a2.map Enc.enc)]=some (Enc.enc r):=by
 refine ans_of (f:=p270) rfl rfl rfl fun e hl he=>?_;have h0_0:e.at 0=(eC a0):=he 0 _ rfl;have h1_0:e.at 1=(eC a1):=he 1 _ rfl;have h2_0:e.at 2=V.isl (a2.map Enc.enc):=he 2 _ rfl;have hl_0:e.length=29:=hl;clear he hl;have h_0:=ai hl_0 (ai h0_0 (ai h1_0 h2_0));show W A b270 e ⟨[],0⟩ _;unfold F270 at hF;obtain⟨x1,gx1,hF⟩:=bS hF;have w2:ans A 302 [(eC a0),(eC a1)]=some (V.int .i64 x1):=s302 a0 a1 gx1;by_cases c3:x1=0
 ·rw[if_pos c3]at hF
  obtain⟨t11,gt11,hF⟩:=bS hF;rcases t11 with _|r12
  ·dsimp only at hF
   simp only[simprocAttr,R0,b270,h_0,w2,eq_true c3];refine W.mono (l270_1 a0 a1 a2 gt11 (ei _ (ai rfl ?_))) ?_
   ·simp only[simprocAttr,R0,h_0,w2,eq_true c3]
   rintro _ e _ ⟨rfl,k5,rfl,hl_6⟩;cases hF;simp only[simprocAttr,R0,hl_6,eq_true c3];exact fin_ret (by simp only[simprocAttr,R0,fn_out,p270,Rs.ev,take_len_self,hl_6,eq_true c3])
  ·dsimp only at hF
   cases hF;simp only[simprocAttr,R0,b270,h_0,w2,eq_true c3];refine W.mono (l270_1 a0 a1 a2 gt11 (ei _ (ai rfl ?_))) ?_
   ·simp only[simprocAttr,R0,h_0,w2,eq_true c3]
   rintro _ e h ⟨rfl,hq⟩;simp only[simprocAttr,RR,RB];exact hq
 ·rw[if_neg c3]at hF
  cases hF;simp only[simprocAttr,R0,b270,h_0,w2,eq_false c3];exact fin_ret (by simp only[simprocAttr,R0,fn_out,p270,Rs.ev,take_len_self,h_0,w2,eq_false c3])
def F272(a0:Int)(a1:Int):Option (List Int):=
 (mkL 8 a0 0).bind fun l1=>
 (getI l1 a1).bind fun x3=>
 (setI l1 a1 1).bind fun l5=>
 some l5
theorem s272(a0:Int)(a1:Int){r:List Int}(hF:F272 a0 a1=some r):ans A 272 [V.int .i64 a0,V.int .i64 a1]=some (Enc.enc r):=by
 refine ans_of (f:=p272) rfl rfl rfl fun e hl he=>?_;have h0_0:e.at 0=V.int .i64 a0:=he 0 _ rfl;have h1_0:e.at 1=V.int .i64 a1:=he 1 _ rfl;have hl_0:e.length=12:=hl;clear he hl;show W A b272 e ⟨[],0⟩ _;unfold F272 at hF;obtain⟨l1,gl1,hF⟩:=bS hF;obtain⟨w2a,w2b,w2c,w2d,w2e⟩:=mkL_w gl1;replace w2e:(List.replicate (Int.toNat a0) [V.int .i64 0]).flatten=List.map Enc.enc l1:=w2e;obtain⟨x3,gx3,hF⟩:=bS hF;obtain⟨w4a,w4b⟩:=getI_w gx3;have w4c:=getI_lt gx3;replace w4c:a1 < (((Int.toNat a0):Nat):Int):=by first|exact w4c|(simp only[w2d]at w4c ⊢; exact w4c)
 have w4d:List.drop (Int.toNat a1) (l1.map Enc.enc)=(V.int .i64 x3)::List.drop ((Int.toNat a1)+1) (l1.map Enc.enc):=drop_enc w4b;obtain⟨l5,gl5,hF⟩:=bS hF;obtain⟨w6a,w6b,w6c,w6d,w6e⟩:=setI_w gl5;replace w6e:List.take (Int.toNat a1) (l1.map Enc.enc)++[V.int .i64 1]++List.drop (Int.toNat a1+1) (l1.map Enc.enc)=List.map Enc.enc l5:=w6e;have hE:=Option.some.inj hF; subst hE;simp only[simprocAttr, -Int.reduceNatCast',R0,b272,hl_0,h0_0,h1_0,w2a,w2b,w2c,w2e,w4a,w4b,w4c,w4d,w6a,w6b,w6c,w6e];exact fin_ret (by simp only[simprocAttr, -Int.reduceNatCast',R0,fn_out,p272,Rs.ev,take_len_self,hl_0,h0_0,h1_0,w2a,w2b,w2c,w2e,w4a,w4b,w4c,w4d,w6a,w6b,w6c,w6e,frzs (α:=Int) l5,takes (α:=Int) l5,take_len (α:=Int) (l:=l5) (n:=(Int.toNat a0)) (by first|rfl|simp only[w2d,w6d]),w2d,w6d])
def F76_1_S(a0:GComplex)(a1:Int)(s:(List (List Int))×Int):Option (((List (List Int))×Int)⊕((List (List Int)))):=
 match s with
 |(o1_1,v6_1)=>
  (F99 a0 a1).bind fun x11=>
  if v6_1 < x11 then
   (app 24 o1_1 ([([]:List Int)])).bind fun l15=>
   (chk (v6_1+1)).bind fun x16=>
   some (.inl (l15,x16))
  else
   some (.inr o1_1)
def F76(a0:GComplex)(a1:Int):Option (List (List Int)):=
 (chk ((a0.Dims.length:Int) - 1)).bind fun x1=>
 (F54 a1 1 x1).bind fun x2=>
 if x2=true then
  (chk (a1 - 1)).bind fun x4=>
  (getI a0.Maps x4).bind fun x5=>
  some x5
 else
  (loopW (F76_1_S a0 a1) ([],0)).bind fun zo1_1=>
  some zo1_1
def I76_1(a0:GComplex)(a1:Int)(s:(List (List Int))×Int)(e:Env)(h:Heap):Prop:=
 match s with
 |(o1_1,v6_1)=>
  ∃u8 k9:Nat,h=⟨[(0,none),(u8,some (o1_1.map Enc.enc))],k9⟩∧e.length=32∧e.at 1=V.int .i64 a1∧e.at 2=V.iptr [V.int .i64 a0.Prime,V.isl (a0.Dims.map Enc.enc),V.isl (a0.Maps.map Enc.enc)]∧e.at 5=V.sl 1 u8 0 o1_1.length 1∧e.at 6=V.int .i64 v6_1
def P76_1(a0:GComplex)(a1:Int)(zo1_1:(List (List Int)))(x:Ex)(e:Env)(h:Heap):Prop:=
 x= .normal∧∃u8 k9:Nat,h=⟨[(0,none),(u8,some (zo1_1.map Enc.enc))],k9⟩∧e.length=32∧e.at 5=V.sl 1 u8 0 zo1_1.length 1
theorem l76_1(a0:GComplex)(a1:Int){s:(List (List Int))×Int}{t:(List (List Int))}(hF:loopW (F76_1_S a0 a1) s=some t){e:Env}{h:Heap}(hI:I76_1 a0 a1 s e h):W A c76_1 e h (P76_1 a0 a1 t):=by
 show W A (.block 0 (.loop false b76_1)) e h _;rw[W_block];refine W_loop hF 2 (by rcases s with⟨_,_⟩; obtain⟨_,_,rfl,_⟩:=hI; rfl) (I76_1 a0 a1) hI ?_
 ·rintro⟨o1_1,v6_1⟩ e h ⟨u8,k9,rfl,h_7⟩ o ho
  unfold F76_1_S at ho;dsimp only at ho;obtain⟨x11,gx11,ho⟩:=bS ho;have w12:ans A 99 [(eC a0),V.int .i64 a1]=some (V.int .i64 x11):=s99 a0 a1 gx11;by_cases c13:v6_1 < x11
  ·rw[if_pos c13]at ho
   obtain⟨l15,gl15,ho⟩:=bS ho;have w14:=fun a b c d e=> appendV_w (α:=List Int) (n:=o1_1.length) (m:=1) (ds:=[V.isl []]) gl15 (by first|rfl|simp) (by first|rfl|simp) rfl a b c d e;have w14l:=app_len gl15;obtain⟨x16,gx16,ho⟩:=bS ho;have wx16:=chk_w gx16;cases ho;simp only[simprocAttr,R0,b76_1,h_7,w12,eq_true c13,w14,wx16];refine ai rfl (ei _ (ei _ (ai rfl ?_)));simp only[simprocAttr,R0,h_7,w12,eq_true c13,w14,wx16]
  ·rw[if_neg c13]at ho
   cases ho;simp only[simprocAttr,R0,b76_1,h_7,w12,eq_false c13];intro ht; subst ht;simp only[simprocAttr,RR,RB];refine ai rfl (ei _ (ei _ (ai rfl ?_)));simp only[simprocAttr,R0,h_7,w12,eq_false c13]
theorem s76(a0:GComplex)(a1:Int){r:List (List Int)}(hF:F76 a0 a1=some r):ans A 76 [(eC a0),V.int .i64 a1]=some (Enc.enc r):=by
 refine ans_of (f:=p76) rfl rfl rfl fun e hl he=>?_;have h0_0:e.at 0=(eC a0):=he 0 _ rfl;have h1_0:e.at 1=V.int .i64 a1:=he 1 _ rfl;have hl_0:e.length=32:=hl;clear he hl;show W A b76 e ⟨[],0⟩ _;unfold F76 at hF;obtain⟨x1,gx1,hF⟩:=bS hF;have wx1:=chk_w gx1;obtain⟨x2,gx2,hF⟩:=bS hF;have w3:ans A 54 [V.int .i64 a1,V.int .i64 1,V.int .i64 x1]=some (V.bool x2):=s54 a1 1 x1 gx2;cases x2 with
 |true=>
  rw[if_pos rfl]at hF;obtain⟨x4,gx4,hF⟩:=bS hF;have wx4:=chk_w gx4;obtain⟨x5,gx5,hF⟩:=bS hF;obtain⟨w6a,w6b⟩:=getI_w gx5;have hE:=Option.some.inj hF; subst hE;simp only[simprocAttr, -Int.reduceNatCast',R0,b76,hl_0,h0_0,h1_0,wx1,w3,wx4,w6a,w6b];exact fin_ret (by simp only[simprocAttr, -Int.reduceNatCast',R0,fn_out,p76,Rs.ev,take_len_self,hl_0,h0_0,h1_0,wx1,w3,wx4,w6a,w6b])
 |false=>
  rw[if_neg Bool.false_ne_true]at hF;obtain⟨zo1_1,gt17,hF⟩:=bS hF;simp only[simprocAttr, -Int.reduceNatCast',R0,b76,hl_0,h0_0,h1_0,wx1,w3];refine W.mono (l76_1 a0 a1 gt17 (ei _ (ei _ (ai rfl ?_)))) ?_
  ·simp only[simprocAttr, -Int.reduceNatCast',R0,hl_0,h0_0,h1_0,wx1,w3]
  rintro _ e _ ⟨rfl,u8,k9,rfl,hl_10,h5_10⟩;have hE:=Option.some.inj hF; subst hE;simp only[simprocAttr, -Int.reduceNatCast',R0,hl_10,h5_10];exact fin_ret (by simp only[simprocAttr, -Int.reduceNatCast',R0,fn_out,p76,Rs.ev,take_len_self,hl_10,h5_10,frzs (α:=List Int) zo1_1,takes (α:=List Int) zo1_1])
def F273(a0:GComplex)(a1:Int)(a2:List Int):Option (List Int):=
 if a1=0 then
  some []
 else
  (F76 a0 a1).bind fun x2=>
  (chk (a1 - 1)).bind fun x4=>
  (F99 a0 x4).bind fun x5=>
  (F80 a0.Prime x2 a2 x5).bind fun x7=>
  some x7
theorem s273(a0:GComplex)(a1:Int)(a2:List Int){r:List Int}(hF:F273 a0 a1 a2=some r):ans A 273 [(eC a0),V.int .i64 a1,V.isl (a2.map Enc.enc)]=some (Enc.enc r):=by
 refine ans_of (f:=p273) rfl rfl rfl fun e hl he=>?_;have h0_0:e.at 0=(eC a0):=he 0 _ rfl;have h1_0:e.at 1=V.int .i64 a1:=he 1 _ rfl;have h2_0:e.at 2=V.isl (a2.map Enc.enc):=he 2 _ rfl;have hl_0:e.length=21:=hl;clear he hl;show W A b273 e ⟨[],0⟩ _;unfold F273 at hF;by_cases c1:a1=0
 ·rw[if_pos c1]at hF
  have hE:=Option.some.inj hF; subst hE;simp only[simprocAttr, -Int.reduceNatCast',R0,b273,hl_0,h0_0,h1_0,h2_0,eq_true c1];exact fin_ret (by simp only[simprocAttr, -Int.reduceNatCast',R0,fn_out,p273,Rs.ev,take_len_self,hl_0,h0_0,h1_0,h2_0,eq_true c1])
 ·rw[if_neg c1]at hF
  obtain⟨x2,gx2,hF⟩:=bS hF;have w3:ans A 76 [(eC a0),V.int .i64 a1]=some (V.isl (x2.map Enc.enc)):=s76 a0 a1 gx2;obtain⟨x4,gx4,hF⟩:=bS hF;have wx4:=chk_w gx4;obtain⟨x5,gx5,hF⟩:=bS hF;have w6:ans A 99 [(eC a0),V.int .i64 x4]=some (V.int .i64 x5):=s99 a0 x4 gx5;obtain⟨x7,gx7,hF⟩:=bS hF;have w8:tans A 80 [1] [V.int .i64 a0.Prime,V.isl (x2.map Enc.enc),V.isl (a2.map Enc.enc),V.int .i64 x5]=some (V.isl (x7.map Enc.enc)):=t80 a0.Prime x2 a2 x5 gx7;have w8t:=thaw_one (α:=Int) x7;have hE:=Option.some.inj hF; subst hE;simp only[simprocAttr, -Int.reduceNatCast',R0,b273,hl_0,h0_0,h1_0,h2_0,eq_false c1,w3,wx4,w6,w8,w8t];exact fin_ret (by simp only[simprocAttr, -Int.reduceNatCast',R0,fn_out,p273,Rs.ev,take_len_self,hl_0,h0_0,h1_0,h2_0,eq_false c1,w3,wx4,w6,w8,w8t,frzs (α:=Int) x7,takes (α:=Int) x7])
theorem t273(a0:GComplex)(a1:Int)(a2:List Int){r:List Int}(hF:F273 a0 a1 a2=some r):tans A 273 [1] [(eC a0),V.int .i64 a1,V.isl (a2.map Enc.enc)]=some (Enc.enc r):=by
 refine tans_of (f:=p273) rfl rfl rfl fun e hl he=>?_;have h0_0:e.at 0=(eC a0):=he 0 _ rfl;have h1_0:e.at 1=V.int .i64 a1:=he 1 _ rfl;have h2_0:e.at 2=V.isl (a2.map Enc.enc):=he 2 _ rfl;have hl_0:e.length=21:=hl;clear he hl;show W A b273 e ⟨[],0⟩ _;unfold F273 at hF;by_cases c1:a1=0
 ·rw[if_pos c1]at hF
  have hE:=Option.some.inj hF; subst hE;simp only[simprocAttr, -Int.reduceNatCast',R0,b273,hl_0,h0_0,h1_0,h2_0,eq_true c1];exact tfin_ret (by simp only[simprocAttr, -Int.reduceNatCast',R0,fn_out,p273,Rs.ev,take_len_self,hl_0,h0_0,h1_0,h2_0,eq_true c1])
 ·rw[if_neg c1]at hF
  obtain⟨x2,gx2,hF⟩:=bS hF;have w3:ans A 76 [(eC a0),V.int .i64 a1]=some (V.isl (x2.map Enc.enc)):=s76 a0 a1 gx2;obtain⟨x4,gx4,hF⟩:=bS hF;have wx4:=chk_w gx4;obtain⟨x5,gx5,hF⟩:=bS hF;have w6:ans A 99 [(eC a0),V.int .i64 x4]=some (V.int .i64 x5):=s99 a0 x4 gx5;obtain⟨x7,gx7,hF⟩:=bS hF;have w8:tans A 80 [1] [V.int .i64 a0.Prime,V.isl (x2.map Enc.enc),V.isl (a2.map Enc.enc),V.int .i64 x5]=some (V.isl (x7.map Enc.enc)):=t80 a0.Prime x2 a2 x5 gx7;have w8t:=thaw_one (α:=Int) x7;have hE:=Option.some.inj hF; subst hE;simp only[simprocAttr, -Int.reduceNatCast',R0,b273,hl_0,h0_0,h1_0,h2_0,eq_false c1,w3,wx4,w6,w8,w8t];exact tfin_ret (by simp only[simprocAttr, -Int.reduceNatCast',R0,fn_out,p273,Rs.ev,take_len_self,hl_0,h0_0,h1_0,h2_0,eq_false c1,w3,wx4,w6,w8,w8t,frzs (α:=Int) x7,takes (α:=Int) x7])
def F287_1_B(a0:List Int)(a1:List Int)(v5_1:Int)(s:Unit):Option ((Unit)⊕((Unit)⊕Bool)):=
 (getI a0 v5_1).bind fun x5=>
(getI a1 v5_1).bind fun x7=>
if x5=x7 then
 some (.inl ())
else
 some (.inr (.inr false))
def F287_1_D(a0:List Int)(a1:List Int)(v5_1:Int)(s:Unit):Option ((Unit)⊕Bool):=
 some (.inl ())
def F287(a0:List Int)(a1:List Int):Option Bool:=
 if(a0.length:Int)=(a1.length:Int)then
  (forR 0 (a0.length:Int) (F287_1_B a0 a1) (F287_1_D a0 a1) ()).bind fun t10=> match t10 with
   | .inl _=>
    some true
   | .inr r11=> some r11
 else
  some false
def I287_1(a0:List Int)(a1:List Int)(v5_1:Int)(s:Unit)(e:Env)(h:Heap):Prop:=
 ∃k3:Nat,h=⟨[],k3⟩∧e.length=26∧e.at 0=V.isl (a0.map Enc.enc)∧e.at 1=V.isl (a1.map Enc.enc)∧e.at 5=V.int .i64 v5_1
def P287_1(a0:List Int)(a1:List Int)(t:(Unit)⊕Bool)(x:Ex)(e:Env)(h:Heap):Prop:=
 match t with
 | .inl _=> x= .normal∧∃k3:Nat,h=⟨[],k3⟩∧e.length=26
 | .inr r=> x= .ret∧Fin p287 (Enc.enc r) .ret e h
theorem l287_1(a0:List Int)(a1:List Int){lo:Int}{s:Unit}{t:(Unit)⊕Bool}(hF:forR lo (a0.length:Int) (F287_1_B a0 a1) (F287_1_D a0 a1) s=some t){e:Env}{h:Heap}(hI:I287_1 a0 a1 lo s e h):W A c287_1 e h (P287_1 a0 a1 t):=by
 show W A (.block 0 (.loop false b287_1)) e h _;rw[W_block];refine W_forR hF 0 (by obtain⟨_,rfl,_⟩:=hI; rfl) (I287_1 a0 a1) hI ?_ ?_
 ·rintro v5_1 _ e h ⟨k3,rfl,h_2⟩ hlt hw o ho
  unfold F287_1_B at ho;obtain⟨x5,gx5,ho⟩:=bS ho;obtain⟨w6a,w6b⟩:=getI_w gx5;obtain⟨x7,gx7,ho⟩:=bS ho;obtain⟨w8a,w8b⟩:=getI_w gx7;by_cases c9:x5=x7
  ·rw[if_pos c9]at ho
   cases ho;simp only[simprocAttr,R0,b287_1,h_2,eq_true hlt,hw,w6a,w6b,w8a,w8b,eq_true c9];refine ai rfl (ei _ (ai rfl ?_));simp only[simprocAttr,R0,h_2,eq_true hlt,hw,w6a,w6b,w8a,w8b,eq_true c9]
  ·rw[if_neg c9]at ho
   cases ho;simp only[simprocAttr,R0,b287_1,h_2,eq_true hlt,hw,w6a,w6b,w8a,w8b,eq_false c9];intro ht; subst ht;simp only[simprocAttr,RR,RB];exact ai rfl (fin_ret (by simp only[simprocAttr,R0,fn_out,p287,Rs.ev,take_len_self,h_2,eq_true hlt,hw,w6a,w6b,w8a,w8b,eq_false c9]))
 ·rintro v5_1 _ e h ⟨k3,rfl,h_2⟩ hge t1 ho
  unfold F287_1_D at ho;cases ho;simp only[simprocAttr,R0,b287_1,h_2,eq_false hge];intro ht; subst ht;refine ai rfl (ei _ (ai rfl ?_));simp only[simprocAttr,R0,h_2,eq_false hge]
theorem s287(a0:List Int)(a1:List Int){r:Bool}(hF:F287 a0 a1=some r):ans A 287 [V.isl (a0.map Enc.enc),V.isl (a1.map Enc.enc)]=some (Enc.enc r):=by
 refine ans_of (f:=p287) rfl rfl rfl fun e hl he=>?_;have h0_0:e.at 0=V.isl (a0.map Enc.enc):=he 0 _ rfl;have h1_0:e.at 1=V.isl (a1.map Enc.enc):=he 1 _ rfl;have hl_0:e.length=26:=hl;clear he hl;have h_0:=ai hl_0 (ai h0_0 h1_0);show W A b287 e ⟨[],0⟩ _;unfold F287 at hF;by_cases c1:(a0.length:Int)=(a1.length:Int)
 ·rw[if_pos c1]at hF
  obtain⟨t10,gt10,hF⟩:=bS hF;rcases t10 with _|r11
  ·dsimp only at hF
   simp only[simprocAttr,R0,b287,h_0,eq_true c1];refine W.mono (l287_1 a0 a1 gt10 (ei _ (ai rfl ?_))) ?_
   ·simp only[simprocAttr,R0,h_0,eq_true c1]
   rintro _ e _ ⟨rfl,k3,rfl,hl_4⟩;cases hF;simp only[simprocAttr,R0,hl_4,eq_true c1];exact fin_ret (by simp only[simprocAttr,R0,fn_out,p287,Rs.ev,take_len_self,hl_4,eq_true c1])
  ·dsimp only at hF
   cases hF;simp only[simprocAttr,R0,b287,h_0,eq_true c1];refine W.mono (l287_1 a0 a1 gt10 (ei _ (ai rfl ?_))) ?_
   ·simp only[simprocAttr,R0,h_0,eq_true c1]
   rintro _ e h ⟨rfl,hq⟩;simp only[simprocAttr,RR,RB];exact hq
 ·rw[if_neg c1]at hF
  cases hF;simp only[simprocAttr,R0,b287,h_0,eq_false c1];exact fin_ret (by simp only[simprocAttr,R0,fn_out,p287,Rs.ev,take_len_self,h_0,eq_false c1])
def F304(a0:GComplex)(a1:GComplex)(a2:List (List (List Int)))(a3:Int)(a4:Int)(a5:List Int):Option (List Int):=
 (getI a2 a3).bind fun x1=>
 (chk (a3+a4)).bind fun x3=>
 (F99 a1 x3).bind fun x4=>
 (F80 a0.Prime x1 a5 x4).bind fun x6=>
 some x6
theorem s304(a0:GComplex)(a1:GComplex)(a2:List (List (List Int)))(a3:Int)(a4:Int)(a5:List Int){r:List Int}(hF:F304 a0 a1 a2 a3 a4 a5=some r):ans A 304 [(eC a0),(eC a1),V.isl (a2.map Enc.enc),V.int .i64 a3,V.int .i64 a4,V.isl (a5.map Enc.enc)]=some (Enc.enc r):=by
 refine ans_of (f:=p304) rfl rfl rfl fun e hl he=>?_;have h0_0:e.at 0=(eC a0):=he 0 _ rfl;have h1_0:e.at 1=(eC a1):=he 1 _ rfl;have h2_0:e.at 2=V.isl (a2.map Enc.enc):=he 2 _ rfl;have h3_0:e.at 3=V.int .i64 a3:=he 3 _ rfl;have h4_0:e.at 4=V.int .i64 a4:=he 4 _ rfl;have h5_0:e.at 5=V.isl (a5.map Enc.enc):=he 5 _ rfl;have hl_0:e.length=26:=hl;clear he hl;show W A b304 e ⟨[],0⟩ _;unfold F304 at hF;obtain⟨x1,gx1,hF⟩:=bS hF;obtain⟨w2a,w2b⟩:=getI_w gx1;obtain⟨x3,gx3,hF⟩:=bS hF;have wx3:=chk_w gx3;obtain⟨x4,gx4,hF⟩:=bS hF;have w5:ans A 99 [(eC a1),V.int .i64 x3]=some (V.int .i64 x4):=s99 a1 x3 gx4;obtain⟨x6,gx6,hF⟩:=bS hF;have w7:ans A 80 [V.int .i64 a0.Prime,V.isl (x1.map Enc.enc),V.isl (a5.map Enc.enc),V.int .i64 x4]=some (V.isl (x6.map Enc.enc)):=s80 a0.Prime x1 a5 x4 gx6;cases hF;simp only[simprocAttr,R0,b304,hl_0,h0_0,h1_0,h2_0,h3_0,h4_0,h5_0,w2a,w2b,wx3,w5,w7];exact fin_ret (by simp only[simprocAttr,R0,fn_out,p304,Rs.ev,take_len_self,hl_0,h0_0,h1_0,h2_0,h3_0,h4_0,h5_0,w2a,w2b,wx3,w5,w7])
def F271_2_S(a0:GComplex)(a1:GComplex)(a2:List (List (List Int)))(v7_1:Int)(v8_2:Int):Option ((Int)⊕((Unit)⊕Bool)):=
 (getI a0.Dims v7_1).bind fun x7=>
if v8_2 < x7 then
 (F272 x7 v8_2).bind fun x10=>
 (chk (v7_1 - 1)).bind fun x12=>
 (F273 a0 v7_1 x10).bind fun x13=>
 (F304 a0 a1 a2 x12 0 x13).bind fun x15=>
 (getI a2 v7_1).bind fun x17=>
 (getI x17 v8_2).bind fun x19=>
 (F273 a1 v7_1 x19).bind fun x21=>
 (F287 x15 x21).bind fun x23=>
 if x23=true then
  (chk (v8_2+1)).bind fun x25=>
  some (.inl x25)
 else
  some (.inr (.inr false))
else
 some (.inr (.inl ()))
def F271_1_B(a0:GComplex)(a1:GComplex)(a2:List (List (List Int)))(v7_1:Int)(s:Unit):Option ((Unit)⊕((Unit)⊕Bool)):=
 (loopW (F271_2_S a0 a1 a2 v7_1) 0).bind fun t26=> match t26 with
 | .inl _=>
  some (.inl ())
 | .inr r27=> some (.inr (.inr r27))
def F271_1_D(a0:GComplex)(a1:GComplex)(a2:List (List (List Int)))(v7_1:Int)(s:Unit):Option ((Unit)⊕Bool):=
 some (.inl ())
def F271(a0:GComplex)(a1:GComplex)(a2:List (List (List Int))):Option Bool:=
 (forR 1 (a0.Dims.length:Int) (F271_1_B a0 a1 a2) (F271_1_D a0 a1 a2) ()).bind fun t28=> match t28 with
  | .inl _=>
   some true
  | .inr r29=> some r29
def I271_2(a0:GComplex)(a1:GComplex)(a2:List (List (List Int)))(v7_1:Int)(v8_2:Int)(e:Env)(h:Heap):Prop:=
 ∃k5:Nat,h=⟨[(0,none),(0,none)],k5⟩∧e.length=55∧e.at 2=V.isl (a2.map Enc.enc)∧e.at 3=V.iptr [V.int .i64 a0.Prime,V.isl (a0.Dims.map Enc.enc),V.isl (a0.Maps.map Enc.enc)]∧e.at 4=V.iptr [V.int .i64 a1.Prime,V.isl (a1.Dims.map Enc.enc),V.isl (a1.Maps.map Enc.enc)]∧e.at 7=V.int .i64 v7_1∧e.at 8=V.int .i64 v8_2
def P271_2(a0:GComplex)(a1:GComplex)(a2:List (List (List Int)))(v7_1:Int)(t:(Unit)⊕Bool)(x:Ex)(e:Env)(h:Heap):Prop:=
 match t with
 | .inl _=> x= .normal∧∃k5:Nat,h=⟨[(0,none),(0,none)],k5⟩∧e.length=55∧e.at 2=V.isl (a2.map Enc.enc)∧e.at 3=V.iptr [V.int .i64 a0.Prime,V.isl (a0.Dims.map Enc.enc),V.isl (a0.Maps.map Enc.enc)]∧e.at 4=V.iptr [V.int .i64 a1.Prime,V.isl (a1.Dims.map Enc.enc),V.isl (a1.Maps.map Enc.enc)]∧e.at 7=V.int .i64 v7_1
 | .inr r=> x= .ret∧Fin p271 (Enc.enc r) .ret e h
theorem l271_2(a0:GComplex)(a1:GComplex)(a2:List (List (List Int)))(v7_1:Int){s:Int}{t:(Unit)⊕Bool}(hF:loopW (F271_2_S a0 a1 a2 v7_1) s=some t){e:Env}{h:Heap}(hI:I271_2 a0 a1 a2 v7_1 s e h):W A c271_2 e h (P271_2 a0 a1 a2 v7_1 t):=by
 show W A (.block 2 (.loop false b271_2)) e h _;rw[W_block];refine W_loop hF 2 (by obtain⟨_,rfl,_⟩:=hI; rfl) (I271_2 a0 a1 a2 v7_1) hI ?_
 ·rintro v8_2 e h ⟨k5,rfl,h_4⟩ o ho
  unfold F271_2_S at ho;obtain⟨x7,gx7,ho⟩:=bS ho;obtain⟨w8a,w8b⟩:=getI_w gx7;by_cases c9:v8_2 < x7
  ·rw[if_pos c9]at ho
   obtain⟨x10,gx10,ho⟩:=bS ho;have w11:ans A 272 [V.int .i64 x7,V.int .i64 v8_2]=some (V.isl (x10.map Enc.enc)):=s272 x7 v8_2 gx10;obtain⟨x12,gx12,ho⟩:=bS ho;have wx12:=chk_w gx12;obtain⟨x13,gx13,ho⟩:=bS ho;have w14:ans A 273 [(eC a0),V.int .i64 v7_1,V.isl (x10.map Enc.enc)]=some (V.isl (x13.map Enc.enc)):=s273 a0 v7_1 x10 gx13;obtain⟨x15,gx15,ho⟩:=bS ho;have w16:ans A 304 [(eC a0),(eC a1),V.isl (a2.map Enc.enc),V.int .i64 x12,V.int .i64 0,V.isl (x13.map Enc.enc)]=some (V.isl (x15.map Enc.enc)):=s304 a0 a1 a2 x12 0 x13 gx15;obtain⟨x17,gx17,ho⟩:=bS ho;obtain⟨w18a,w18b⟩:=getI_w gx17;obtain⟨x19,gx19,ho⟩:=bS ho;obtain⟨w20a,w20b⟩:=getI_w gx19;obtain⟨x21,gx21,ho⟩:=bS ho;have w22:ans A 273 [(eC a1),V.int .i64 v7_1,V.isl (x19.map Enc.enc)]=some (V.isl (x21.map Enc.enc)):=s273 a1 v7_1 x19 gx21;obtain⟨x23,gx23,ho⟩:=bS ho;have w24:ans A 287 [V.isl (x15.map Enc.enc),V.isl (x21.map Enc.enc)]=some (V.bool x23):=s287 x15 x21 gx23;cases x23 with
   |true=>
    rw[if_pos rfl]at ho;obtain⟨x25,gx25,ho⟩:=bS ho;have wx25:=chk_w gx25;cases ho;simp only[simprocAttr,R0,b271_2,h_4,w8a,w8b,eq_true c9,w11,wx12,w14,w16,w18a,w18b,w20a,w20b,w22,w24,wx25];refine ai rfl (ei _ (ai rfl ?_));simp only[simprocAttr,R0,h_4,w8a,w8b,eq_true c9,w11,wx12,w14,w16,w18a,w18b,w20a,w20b,w22,w24,wx25]
   |false=>
    rw[if_neg Bool.false_ne_true]at ho;cases ho;simp only[simprocAttr,R0,b271_2,h_4,w8a,w8b,eq_true c9,w11,wx12,w14,w16,w18a,w18b,w20a,w20b,w22,w24];intro ht; subst ht;simp only[simprocAttr,RR,RB];exact ai rfl (fin_ret (by simp only[simprocAttr,R0,fn_out,p271,Rs.ev,take_len_self,h_4,w8a,w8b,eq_true c9,w11,wx12,w14,w16,w18a,w18b,w20a,w20b,w22,w24]))
  ·rw[if_neg c9]at ho
   cases ho;simp only[simprocAttr,R0,b271_2,h_4,w8a,w8b,eq_false c9];intro ht; subst ht;simp only[simprocAttr,RR,RB];refine ai rfl (ei _ (ai rfl ?_));simp only[simprocAttr,R0,h_4,w8a,w8b,eq_false c9]
def I271_1(a0:GComplex)(a1:GComplex)(a2:List (List (List Int)))(v7_1:Int)(s:Unit)(e:Env)(h:Heap):Prop:=
 ∃k2:Nat,h=⟨[(0,none),(0,none)],k2⟩∧e.length=55∧e.at 2=V.isl (a2.map Enc.enc)∧e.at 3=V.iptr [V.int .i64 a0.Prime,V.isl (a0.Dims.map Enc.enc),V.isl (a0.Maps.map Enc.enc)]∧e.at 4=V.iptr [V.int .i64 a1.Prime,V.isl (a1.Dims.map Enc.enc),V.isl (a1.Maps.map Enc.enc)]∧e.at 7=V.int .i64 v7_1
def P271_1(a0:GComplex)(a1:GComplex)(a2:List (List (List Int)))(t:(Unit)⊕Bool)(x:Ex)(e:Env)(h:Heap):Prop:=
 match t with
 | .inl _=> x= .normal∧∃k2:Nat,h=⟨[(0,none),(0,none)],k2⟩∧e.length=55
 | .inr r=> x= .ret∧Fin p271 (Enc.enc r) .ret e h
theorem l271_1(a0:GComplex)(a1:GComplex)(a2:List (List (List Int))){lo:Int}{s:Unit}{t:(Unit)⊕Bool}(hF:forR lo (a0.Dims.length:Int) (F271_1_B a0 a1 a2) (F271_1_D a0 a1 a2) s=some t){e:Env}{h:Heap}(hI:I271_1 a0 a1 a2 lo s e h):W A c271_1 e h (P271_1 a0 a1 a2 t):=by
 show W A (.block 0 (.loop false b271_1)) e h _;rw[W_block];refine W_forR hF 2 (by obtain⟨_,rfl,_⟩:=hI; rfl) (I271_1 a0 a1 a2) hI ?_ ?_
 ·rintro v7_1 _ e h ⟨k2,rfl,h_1⟩ hlt hw o ho
  unfold F271_1_B at ho;obtain⟨t26,gt26,ho⟩:=bS ho;rcases t26 with _|r27
  ·dsimp only at ho
   simp only[simprocAttr,R0,b271_1,h_1,eq_true hlt,hw];refine W.mono (l271_2 a0 a1 a2 v7_1 gt26 (ei _ (ai rfl ?_))) ?_
   ·simp only[simprocAttr,R0,h_1,eq_true hlt,hw]
   rintro _ e _ ⟨rfl,k5,rfl,h_6⟩;cases ho;simp only[simprocAttr,R0,h_6,eq_true hlt,hw];refine ai rfl (ei _ (ai rfl ?_));simp only[simprocAttr,R0,h_6,eq_true hlt,hw]
  ·dsimp only at ho
   cases ho;simp only[simprocAttr,R0,b271_1,h_1,eq_true hlt,hw];refine W.mono (l271_2 a0 a1 a2 v7_1 gt26 (ei _ (ai rfl ?_))) ?_
   ·simp only[simprocAttr,R0,h_1,eq_true hlt,hw]
   rintro _ e h ⟨rfl,hq⟩;simp only[simprocAttr,RR,RB];intro ht; subst ht;simp only[simprocAttr,RR,RB];exact ai rfl hq
 ·rintro v7_1 _ e h ⟨k2,rfl,h_1⟩ hge t1 ho
  unfold F271_1_D at ho;cases ho;simp only[simprocAttr,R0,b271_1,h_1,eq_false hge];intro ht; subst ht;refine ai rfl (ei _ (ai rfl ?_));simp only[simprocAttr,R0,h_1,eq_false hge]
theorem s271(a0:GComplex)(a1:GComplex)(a2:List (List (List Int))){r:Bool}(hF:F271 a0 a1 a2=some r):ans A 271 [(eC a0),(eC a1),V.isl (a2.map Enc.enc)]=some (Enc.enc r):=by
 refine ans_of (f:=p271) rfl rfl rfl fun e hl he=>?_;have h0_0:e.at 0=(eC a0):=he 0 _ rfl;have h1_0:e.at 1=(eC a1):=he 1 _ rfl;have h2_0:e.at 2=V.isl (a2.map Enc.enc):=he 2 _ rfl;have hl_0:e.length=55:=hl;clear he hl;have h_0:=ai hl_0 (ai h0_0 (ai h1_0 h2_0));show W A b271 e ⟨[],0⟩ _;unfold F271 at hF;obtain⟨t28,gt28,hF⟩:=bS hF;rcases t28 with _|r29
 ·dsimp only at hF
  simp only[simprocAttr,R0,b271,h_0];refine W.mono (l271_1 a0 a1 a2 gt28 (ei _ (ai rfl ?_))) ?_
  ·simp only[simprocAttr,R0,h_0]
  rintro _ e _ ⟨rfl,k2,rfl,hl_3⟩;cases hF;simp only[simprocAttr,R0,hl_3];exact fin_ret (by simp only[simprocAttr,R0,fn_out,p271,Rs.ev,take_len_self,hl_3])
 ·dsimp only at hF
  cases hF;simp only[simprocAttr,R0,b271,h_0];refine W.mono (l271_1 a0 a1 a2 gt28 (ei _ (ai rfl ?_))) ?_
  ·simp only[simprocAttr,R0,h_0]
  rintro _ e h ⟨rfl,hq⟩;simp only[simprocAttr,RR,RB];exact hq
def F353(a0:GComplex)(a1:GComplex)(a2:List (List (List Int))):Option (T2 Bool Int):=
 (F270 a0 a1 [a2]).bind fun x1=>
 if x1=0 then
  (F271 a0 a1 a2).bind fun x4=>
  some ⟨x4,0⟩
 else
  some ⟨false,x1⟩
theorem s353(a0:GComplex)(a1:GComplex)(a2:List (List (List Int))){r:T2 Bool Int}(hF:F353 a0 a1 a2=some r):ans A 353 [(eC a0),(eC a1),V.isl (a2.map Enc.enc)]=some (EncR.enc r):=by
 refine ans_of (f:=p353) rfl rfl rfl fun e hl he=>?_;have h0_0:e.at 0=(eC a0):=he 0 _ rfl;have h1_0:e.at 1=(eC a1):=he 1 _ rfl;have h2_0:e.at 2=V.isl (a2.map Enc.enc):=he 2 _ rfl;have hl_0:e.length=21:=hl;clear he hl;have h_0:=ai hl_0 (ai h0_0 (ai h1_0 h2_0));show W A b353 e ⟨[],0⟩ _;unfold F353 at hF;obtain⟨x1,gx1,hF⟩:=bS hF;have w2:ans A 270 [(eC a0),(eC a1),V.isl [V.isl (a2.map Enc.enc)]]=some (V.int .i64 x1):=s270 a0 a1 [a2] gx1;by_cases c3:x1=0
 ·rw[if_pos c3]at hF
  obtain⟨x4,gx4,hF⟩:=bS hF;have w5:ans A 271 [(eC a0),(eC a1),V.isl (a2.map Enc.enc)]=some (V.bool x4):=s271 a0 a1 a2 gx4;cases hF;simp only[simprocAttr,R0,b353,h_0,w2,eq_true c3,w5];exact fin_ret (by simp only[simprocAttr,R0,fn_out,p353,Rs.ev,take_len_self,h_0,w2,eq_true c3,w5])
 ·rw[if_neg c3]at hF
  cases hF;simp only[simprocAttr,R0,b353,h_0,w2,eq_false c3];exact fin_ret (by simp only[simprocAttr,R0,fn_out,p353,Rs.ev,take_len_self,h_0,w2,eq_false c3])
def F94(a0:List Int):Option (List Int):=
 (app 8 ([]:List Int) a0).bind fun l2=>
 some l2
theorem s94(a0:List Int){r:List Int}(hF:F94 a0=some r):ans A 94 [V.isl (a0.map Enc.enc)]=some (Enc.enc r):=by
 refine ans_of (f:=p94) rfl rfl rfl fun e hl he=>?_;have h0_0:e.at 0=V.isl (a0.map Enc.enc):=he 0 _ rfl;have hl_0:e.length=6:=hl;clear he hl;show W A b94 e ⟨[],0⟩ _;unfold F94 at hF;obtain⟨l2,gl2,hF⟩:=bS hF;have w1:=fun ents key uid clk he=> appendV_w (α:=Int) (n:=0) (m:=a0.length) (ds:=List.map Enc.enc a0) gl2 (by first|rfl|simp only[List.length_nil]) (by first|rfl|simp only[List.length_nil]) rfl ents key uid clk he;have w1l:=app_len gl2;have hE:=Option.some.inj hF; subst hE;simp only[simprocAttr, -Int.reduceNatCast',R0,b94,hl_0,h0_0,w1];exact fin_ret (by simp only[simprocAttr, -Int.reduceNatCast',R0,fn_out,p94,Rs.ev,take_len_self,hl_0,h0_0,w1,frzs (α:=Int) l2,takes (α:=Int) l2])
theorem t94(a0:List Int){r:List Int}(hF:F94 a0=some r):tans A 94 [1] [V.isl (a0.map Enc.enc)]=some (Enc.enc r):=by
 refine tans_of (f:=p94) rfl rfl rfl fun e hl he=>?_;have h0_0:e.at 0=V.isl (a0.map Enc.enc):=he 0 _ rfl;have hl_0:e.length=6:=hl;clear he hl;show W A b94 e ⟨[],0⟩ _;unfold F94 at hF;obtain⟨l2,gl2,hF⟩:=bS hF;have w1:=fun ents key uid clk he=> appendV_w (α:=Int) (n:=0) (m:=a0.length) (ds:=List.map Enc.enc a0) gl2 (by first|rfl|simp only[List.length_nil]) (by first|rfl|simp only[List.length_nil]) rfl ents key uid clk he;have w1l:=app_len gl2;have hE:=Option.some.inj hF; subst hE;simp only[simprocAttr, -Int.reduceNatCast',R0,b94,hl_0,h0_0,w1];exact tfin_ret (by simp only[simprocAttr, -Int.reduceNatCast',R0,fn_out,p94,Rs.ev,take_len_self,hl_0,h0_0,w1,frzs (α:=Int) l2,takes (α:=Int) l2])
def F127(a0:Int)(a1:Int):Option Int:=
 (remI a1 a0).bind fun x1=>
 (chk (x1+a0)).bind fun x3=>
 (remI x3 a0).bind fun x4=>
 some x4
theorem s127(a0:Int)(a1:Int){r:Int}(hF:F127 a0 a1=some r):ans A 127 [V.int .i64 a0,V.int .i64 a1]=some (Enc.enc r):=by
 refine ans_of (f:=p127) rfl rfl rfl fun e hl he=>?_;have h0_0:e.at 0=V.int .i64 a0:=he 0 _ rfl;have h1_0:e.at 1=V.int .i64 a1:=he 1 _ rfl;have hl_0:e.length=12:=hl;clear he hl;show W A b127 e ⟨[],0⟩ _;unfold F127 at hF;obtain⟨x1,gx1,hF⟩:=bS hF;obtain⟨w2a,w2b⟩:=rem_w gx1;obtain⟨x3,gx3,hF⟩:=bS hF;have wx3:=chk_w gx3;obtain⟨x4,gx4,hF⟩:=bS hF;obtain⟨w5a,w5b⟩:=rem_w gx4;cases hF;simp only[simprocAttr,R0,b127,hl_0,h0_0,h1_0,eq_false w2a,w2b,wx3,eq_false w5a,w5b];exact fin_ret (by simp only[simprocAttr,R0,fn_out,p127,Rs.ev,take_len_self,hl_0,h0_0,h1_0,eq_false w2a,w2b,wx3,eq_false w5a,w5b])
def F136_1_B(a0:Int)(a1:List Int)(a2:List Int)(a3:Int)(v10_1:Int)(o0_1:(List Int)):Option (((List Int))⊕((List Int))):=
 (getI a1 v10_1).bind fun x5=>
(getI a2 v10_1).bind fun x7=>
(chk (a3*x7)).bind fun x9=>
(chk (x5 - x9)).bind fun x10=>
(F127 a0 x10).bind fun x11=>
(app 8 o0_1 [x11]).bind fun l14=>
some (.inl l14)
def F136_1_D(a0:Int)(a1:List Int)(a2:List Int)(a3:Int)(v10_1:Int)(o0_1:(List Int)):Option ((List Int)):=
 some o0_1
def F136(a0:Int)(a1:List Int)(a2:List Int)(a3:Int):Option (List Int):=
 (forR 0 (a1.length:Int) (F136_1_B a0 a1 a2 a3) (F136_1_D a0 a1 a2 a3) ([]:(List Int))).bind fun zo0_1=>
 some zo0_1
def I136_1(a0:Int)(a1:List Int)(a2:List Int)(a3:Int)(v10_1:Int)(o0_1:(List Int))(e:Env)(h:Heap):Prop:=
 ∃u2 k3:Nat,h=⟨[(u2,some (o0_1.map Enc.enc))],k3⟩∧e.length=35∧e.at 0=V.int .i64 a0∧e.at 1=V.isl (a1.map Enc.enc)∧e.at 2=V.isl (a2.map Enc.enc)∧e.at 3=V.int .i64 a3∧e.at 9=V.sl 0 u2 0 o0_1.length 1∧e.at 10=V.int .i64 v10_1
def P136_1(a0:Int)(a1:List Int)(a2:List Int)(a3:Int)(zo0_1:(List Int))(x:Ex)(e:Env)(h:Heap):Prop:=
 x= .normal∧∃u2 k3:Nat,h=⟨[(u2,some (zo0_1.map Enc.enc))],k3⟩∧e.length=35∧e.at 9=V.sl 0 u2 0 zo0_1.length 1
theorem l136_1(a0:Int)(a1:List Int)(a2:List Int)(a3:Int){lo:Int}{s:(List Int)}{t:(List Int)}(hF:forR lo (a1.length:Int) (F136_1_B a0 a1 a2 a3) (F136_1_D a0 a1 a2 a3) s=some t){e:Env}{h:Heap}(hI:I136_1 a0 a1 a2 a3 lo s e h):W A c136_1 e h (P136_1 a0 a1 a2 a3 t):=by
 show W A (.block 0 (.loop false b136_1)) e h _;rw[W_block];refine W_forR hF 1 (by obtain⟨_,_,rfl,_⟩:=hI; rfl) (I136_1 a0 a1 a2 a3) hI ?_ ?_
 ·rintro v10_1 o0_1 e h ⟨u2,k3,rfl,h_1⟩ hlt hw o ho
  unfold F136_1_B at ho;obtain⟨x5,gx5,ho⟩:=bS ho;obtain⟨w6a,w6b⟩:=getI_w gx5;obtain⟨x7,gx7,ho⟩:=bS ho;obtain⟨w8a,w8b⟩:=getI_w gx7;obtain⟨x9,gx9,ho⟩:=bS ho;have wx9:=chk_w gx9;obtain⟨x10,gx10,ho⟩:=bS ho;have wx10:=chk_w gx10;obtain⟨x11,gx11,ho⟩:=bS ho;have w12:ans A 127 [V.int .i64 a0,V.int .i64 x10]=some (V.int .i64 x11):=s127 a0 x10 gx11;obtain⟨l14,gl14,ho⟩:=bS ho;have w13:=fun a b c d e=> appendV_w (α:=Int) (n:=o0_1.length) (m:=1) (ds:=[V.int .i64 x11]) gl14 (by first|rfl|simp) (by first|rfl|simp) rfl a b c d e;have w13l:=app_len gl14;cases ho;simp only[simprocAttr,R0,b136_1,h_1,eq_true hlt,hw,w6a,w6b,w8a,w8b,wx9,wx10,w12,w13];refine ai rfl (ei _ (ei _ (ai rfl ?_)));simp only[simprocAttr,R0,h_1,eq_true hlt,hw,w6a,w6b,w8a,w8b,wx9,wx10,w12,w13]
 ·rintro v10_1 o0_1 e h ⟨u2,k3,rfl,h_1⟩ hge t1 ho
  unfold F136_1_D at ho;cases ho;simp only[simprocAttr,R0,b136_1,h_1,eq_false hge];intro ht; subst ht;refine ai rfl (ei _ (ei _ (ai rfl ?_)));simp only[simprocAttr,R0,h_1,eq_false hge]
theorem t136(a0:Int)(a1:List Int)(a2:List Int)(a3:Int){r:List Int}(hF:F136 a0 a1 a2 a3=some r):tans A 136 [1] [V.int .i64 a0,V.isl (a1.map Enc.enc),V.isl (a2.map Enc.enc),V.int .i64 a3]=some (Enc.enc r):=by
 refine tans_of (f:=p136) rfl rfl rfl fun e hl he=>?_;have h0_0:e.at 0=V.int .i64 a0:=he 0 _ rfl;have h1_0:e.at 1=V.isl (a1.map Enc.enc):=he 1 _ rfl;have h2_0:e.at 2=V.isl (a2.map Enc.enc):=he 2 _ rfl;have h3_0:e.at 3=V.int .i64 a3:=he 3 _ rfl;have hl_0:e.length=35:=hl;clear he hl;show W A b136 e ⟨[],0⟩ _;unfold F136 at hF;obtain⟨zo0_1,gt15,hF⟩:=bS hF;simp only[simprocAttr, -Int.reduceNatCast',R0,b136,hl_0,h0_0,h1_0,h2_0,h3_0];refine W.mono (l136_1 a0 a1 a2 a3 gt15 (ei _ (ei _ (ai rfl ?_)))) ?_
 ·simp only[simprocAttr, -Int.reduceNatCast',R0,hl_0,h0_0,h1_0,h2_0,h3_0]
 rintro _ e _ ⟨rfl,u2,k3,rfl,hl_4,h9_4⟩;have hE:=Option.some.inj hF; subst hE;simp only[simprocAttr, -Int.reduceNatCast',R0,hl_4,h9_4];exact tfin_ret (by simp only[simprocAttr, -Int.reduceNatCast',R0,fn_out,p136,Rs.ev,take_len_self,hl_4,h9_4,frzs (α:=Int) zo0_1,takes (α:=Int) zo0_1])
def F134_1_B(a0:Int)(a1:List (List Int))(v8_1:Int)(v7_1:(List Int)):Option (((List Int))⊕((List Int))):=
 (getI a1 v8_1).bind fun x6=>
(F81 x6).bind fun x8=>
(getI v7_1 x8).bind fun x10=>
(F136 a0 v7_1 x6 x10).bind fun x12=>
some (.inl x12)
def F134_1_D(a0:Int)(a1:List (List Int))(v8_1:Int)(v7_1:(List Int)):Option ((List Int)):=
 some v7_1
def F134(a0:Int)(a1:List (List Int))(a2:List Int):Option (List Int):=
 (F94 a2).bind fun x1=>
 (forR 0 (a1.length:Int) (F134_1_B a0 a1) (F134_1_D a0 a1) x1).bind fun zv7_1=>
 some zv7_1
theorem d134(a0:Int)(a1:List (List Int))(a2:List Int){r:List Int}(hF:F134 a0 a1 a2=some r):∃v h',res A 134 [V.int .i64 a0,V.isl (a1.map Enc.enc),V.isl (a2.map Enc.enc)] Heap.empty=some (v,h')∧∃K,Deep.rep h' v r K:=by
 refine res_dp (f:=p134) rfl rfl rfl fun e hl he=>?_;have h0_0:e.at 0=V.int .i64 a0:=he 0 _ rfl;have h1_0:e.at 1=V.isl (a1.map Enc.enc):=he 1 _ rfl;have h2_0:e.at 2=V.isl (a2.map Enc.enc):=he 2 _ rfl;have hl_0:e.length=33:=hl;clear he hl;show W A b134 e ⟨[],0⟩ _;unfold F134 at hF;obtain⟨o,go,hF⟩:=bS hF;have wo:tans A 94 [1] [V.isl (a2.map Enc.enc)]=some (V.isl (o.map Enc.enc)):=t94 a2 go;obtain⟨t,gt,hF⟩:=bS hF;cases hF;simp only[simprocAttr,R1,b134,hl_0,h0_0,h1_0,h2_0,wo,callM_tans,thaw_one];show W A (.block 0 (.loop true b134_1)) _ _ _;rw[W_block];refine W_forR gt _ rfl (fun i q e h=>∃k u,h.ents[k]? =some (u,some (q.map Enc.enc))∧e.length=33∧e.at 0=V.int .i64 a0∧e.at 1=V.isl (a1.map Enc.enc)∧e.at 7=V.sl k u 0 q.length 1∧e.at 8=V.int .i64 i) ?_ ?_ ?_
 ·refine⟨0,0,rfl,?_⟩
  simp only[simprocAttr,R1,hl_0,h0_0,h1_0,h2_0]
 ·clear hl_0 h0_0 h1_0 h2_0
  rintro i q e ⟨E,c⟩ ⟨k,u,g1,h_1⟩ hlt hw s' ho;unfold F134_1_B at ho;simp only at g1;obtain⟨x6,gx6,ho⟩:=bS ho;obtain⟨x6a,x6b⟩:=getI_w gx6;obtain⟨x8,gx8,ho⟩:=bS ho;have w8:ans A 81 [V.isl (x6.map Enc.enc)]=some (V.int .i64 x8):=s81 x6 gx8;obtain⟨x10,gx10,ho⟩:=bS ho;obtain⟨x10a,x10b⟩:=getI_w gx10;have x10c:=getI_lt gx10;obtain⟨x12,gx12,ho⟩:=bS ho;have w12:tans A 136 [1] [V.int .i64 a0,V.isl (q.map Enc.enc),V.isl (x6.map Enc.enc),V.int .i64 x10]=some (V.isl (x12.map Enc.enc)):=t136 a0 q x6 x10 gx12;cases ho;have wfz:frz ⟨E,c⟩ 16 (V.sl k u 0 q.length 1)=some (V.isl (q.map Enc.enc)):=frz_row g1;have wbr:=bare_one (α:=Int) x12;have o10:ofCells none (List.drop x8.toNat (q.map Enc.enc))=some (V.int .i64 x10):=ofCells_drop (by rw[List.getElem?_map,x10b]; rfl);simp only[simprocAttr,R1,b134_1,h_1,eq_true hlt,hw,x6a,x6b,w8,x10a,eq_true x10c,g1,o10,wfz,w12,wbr,callM_tans,thaw_one];refine ai rfl ⟨_,_,get_last _ _,?_⟩;simp only[simprocAttr,R1,h_1,hw]
 ·clear hl_0 h0_0 h1_0 h2_0
  rintro i q e ⟨E,c⟩ ⟨k,u,g1,h_1⟩ hge t1 ho;unfold F134_1_D at ho;cases ho;simp only at g1;simp only[simprocAttr,R1,b134_1,h_1,eq_false hge];intro ht; subst ht;refine ai (fun _=> trivial) ⟨_,?_,fun x=> x=k,int_row (l:=q) g1 fun x=> Iff.rfl⟩;simp only[simprocAttr,R1,fn_out,p134,Rs.ev,h_1]
theorem t134(a0:Int)(a1:List (List Int))(a2:List Int){r:List Int}(hF:F134 a0 a1 a2=some r):tans A 134 [1] [V.int .i64 a0,V.isl (a1.map Enc.enc),V.isl (a2.map Enc.enc)]=some (Enc.enc r):=tans_of_deep (α:=List Int) (by decide) (d134 a0 a1 a2 hF)
theorem s134(a0:Int)(a1:List (List Int))(a2:List Int){r:List Int}(hF:F134 a0 a1 a2=some r):ans A 134 [V.int .i64 a0,V.isl (a1.map Enc.enc),V.isl (a2.map Enc.enc)]=some (Enc.enc r):=ans_of_deep (α:=List Int) (by decide) (d134 a0 a1 a2 hF)
def F243_2_S(a0:GComplex)(a1:GComplex)(a2:List (List (List Int)))(o4_1:List (List (List Int)))(q5_0_1:Int)(v8_1:Int)(x12:Int)(l14:List Int)(s:(List (List Int))×Int):Option (((List (List Int))×Int)⊕((List (List Int)))):=
 match s with
 |(o7_2,v10_2)=>
  (F99 a1 v8_1).bind fun x21=>
  if v10_2 < x21 then
   (F272 x21 v10_2).bind fun x24=>
   (F273 a1 v8_1 x24).bind fun x26=>
   (chk (v8_1 - 2)).bind fun x28=>
   (F99 a0 x28).bind fun x29=>
   (appZ 8 x26 x29 0).bind fun l32=>
   (app 24 o7_2 [l32]).bind fun l34=>
   (chk (v10_2+1)).bind fun x35=>
   some (.inl (l34,x35))
  else
   some (.inr o7_2)
def F243_4_S(a0:GComplex)(a1:GComplex)(a2:List (List (List Int)))(o4_1:List (List (List Int)))(q5_0_1:Int)(v8_1:Int)(x12:Int)(l14:List Int)(o7_3:List (List Int))(v11_3:Int)(s:(List Int)×Int):Option (((List Int)×Int)⊕((List Int))):=
 match s with
 |(o8_4,v13_4)=>
  if v13_4 < ((o8_4.length:Nat):Int)then
   (getI o8_4 v13_4).bind fun x54=>
   (chk (0 - x54)).bind fun x56=>
   (F127 a0.Prime x56).bind fun x57=>
   (setI o8_4 v13_4 x57).bind fun l59=>
   (chk (v13_4+1)).bind fun x61=>
   some (.inl (l59,x61))
  else
   some (.inr o8_4)
def F243_3_S(a0:GComplex)(a1:GComplex)(a2:List (List (List Int)))(o4_1:List (List (List Int)))(q5_0_1:Int)(v8_1:Int)(x12:Int)(l14:List Int)(s:(List (List Int))×Int):Option (((List (List Int))×Int)⊕((List (List Int)))):=
 match s with
 |(o7_3,v11_3)=>
  (chk (v8_1 - 1)).bind fun x41=>
  (F99 a0 x41).bind fun x42=>
  if v11_3 < x42 then
   (F272 x42 v11_3).bind fun x45=>
   (F273 a0 x41 x45).bind fun x47=>
   (loopW (F243_4_S a0 a1 a2 o4_1 q5_0_1 v8_1 x12 l14 o7_3 v11_3) (x47,0)).bind fun zo8_4=>
   (getI a2 x41).bind fun x63=>
   (getI x63 v11_3).bind fun x65=>
   (F94 x65).bind fun x67=>
   (app 8 x67 zo8_4).bind fun l70=>
   (app 24 o7_3 [l70]).bind fun l72=>
   (chk (v11_3+1)).bind fun x73=>
   some (.inl (l72,x73))
  else
   some (.inr o7_3)
def F243_1_S(a0:GComplex)(a1:GComplex)(a2:List (List (List Int)))(s:(List Int)×(List (List (List Int)))×Int×Int):Option (((List Int)×(List (List (List Int)))×Int×Int)⊕((List Int)×(List (List (List Int)))×Int)):=
 match s with
 |(o3_1,o4_1,q5_0_1,v8_1)=>
  if v8_1≤(a0.Dims.length:Int)then
   (F99 a1 v8_1).bind fun x7=>
   (chk (v8_1 - 1)).bind fun x9=>
   (F99 a0 x9).bind fun x10=>
   (chk (x7+x10)).bind fun x12=>
   (app 8 o3_1 [x12]).bind fun l14=>
   if v8_1=0 then
    (chk (v8_1+1)).bind fun x16=>
    some (.inl (l14,o4_1,q5_0_1,x16))
   else
    (loopW (F243_2_S a0 a1 a2 o4_1 q5_0_1 v8_1 x12 l14) ([],0)).bind fun zo7_2=>
    (loopW (F243_3_S a0 a1 a2 o4_1 q5_0_1 v8_1 x12 l14) (zo7_2,0)).bind fun zo7_3=>
    (app 24 o4_1 [zo7_3]).bind fun l76=>
    (chk (v8_1+1)).bind fun x77=>
    some (.inl (l14,l76,q5_0_1,x77))
  else
   some (.inr (o3_1,o4_1,q5_0_1))
def F243(a0:GComplex)(a1:GComplex)(a2:List (List (List Int))):Option GComplex:=
 (loopW (F243_1_S a0 a1 a2) ([],[],a0.Prime,0)).bind fun t78=> match t78 with
  |(zo3_1,zo4_1,zq5_0_1)=>
   some ⟨zq5_0_1,zo3_1,zo4_1⟩
def I243_2(a0:GComplex)(a1:GComplex)(a2:List (List (List Int)))(o4_1:List (List (List Int)))(q5_0_1:Int)(v8_1:Int)(x12:Int)(l14:List Int)(u2 u3 k4:Nat)(s:(List (List Int))×Int)(e:Env)(h:Heap):Prop:=
 match s with
 |(o7_2,v10_2)=>
  ∃u18 k19:Nat,h=⟨[(0,none),(0,none),(2,some [V.int .i64 0,V.nils,V.nils]),((appU 1 u2 (k4+1)),some (l14.map Enc.enc)),(u3,some (o4_1.map Enc.enc)),(5,some [V.int .i64 q5_0_1,V.sl 3 (appU 1 u2 (k4+1)) 0 l14.length 1,V.sl 4 u3 0 o4_1.length 1]),(k4,some [V.int .i64 x12]),(u18,some (o7_2.map Enc.enc))],k19⟩∧e.length=121∧e.at 2=V.isl (a2.map Enc.enc)∧e.at 3=V.iptr [V.int .i64 a0.Prime,V.isl (a0.Dims.map Enc.enc),V.isl (a0.Maps.map Enc.enc)]∧e.at 4=V.iptr [V.int .i64 a1.Prime,V.isl (a1.Dims.map Enc.enc),V.isl (a1.Maps.map Enc.enc)]∧e.at 6=V.ptr 2 2 0∧e.at 7=V.ptr 5 5 0∧e.at 8=V.int .i64 v8_1∧e.at 9=V.sl 7 u18 0 o7_2.length 1∧e.at 10=V.int .i64 v10_2
def P243_2(a0:GComplex)(a1:GComplex)(a2:List (List (List Int)))(o4_1:List (List (List Int)))(q5_0_1:Int)(v8_1:Int)(x12:Int)(l14:List Int)(u2 u3 k4:Nat)(zo7_2:(List (List Int)))(x:Ex)(e:Env)(h:Heap):Prop:=
 x= .normal∧∃u18 k19:Nat,h=⟨[(0,none),(0,none),(2,some [V.int .i64 0,V.nils,V.nils]),((appU 1 u2 (k4+1)),some (l14.map Enc.enc)),(u3,some (o4_1.map Enc.enc)),(5,some [V.int .i64 q5_0_1,V.sl 3 (appU 1 u2 (k4+1)) 0 l14.length 1,V.sl 4 u3 0 o4_1.length 1]),(k4,some [V.int .i64 x12]),(u18,some (zo7_2.map Enc.enc))],k19⟩∧e.length=121∧e.at 2=V.isl (a2.map Enc.enc)∧e.at 3=V.iptr [V.int .i64 a0.Prime,V.isl (a0.Dims.map Enc.enc),V.isl (a0.Maps.map Enc.enc)]∧e.at 4=V.iptr [V.int .i64 a1.Prime,V.isl (a1.Dims.map Enc.enc),V.isl (a1.Maps.map Enc.enc)]∧e.at 6=V.ptr 2 2 0∧e.at 7=V.ptr 5 5 0∧e.at 8=V.int .i64 v8_1∧e.at 9=V.sl 7 u18 0 zo7_2.length 1
theorem l243_2(a0:GComplex)(a1:GComplex)(a2:List (List (List Int)))(o4_1:List (List (List Int)))(q5_0_1:Int)(v8_1:Int)(x12:Int)(l14:List Int)(u2 u3 k4:Nat){s:(List (List Int))×Int}{t:(List (List Int))}(hF:loopW (F243_2_S a0 a1 a2 o4_1 q5_0_1 v8_1 x12 l14) s=some t){e:Env}{h:Heap}(hI:I243_2 a0 a1 a2 o4_1 q5_0_1 v8_1 x12 l14 u2 u3 k4 s e h):W A c243_2 e h (P243_2 a0 a1 a2 o4_1 q5_0_1 v8_1 x12 l14 u2 u3 k4 t):=by
 show W A (.block 2 (.loop false b243_2)) e h _;rw[W_block];refine W_loop hF 8 (by rcases s with⟨_,_⟩; obtain⟨_,_,rfl,_⟩:=hI; rfl) (I243_2 a0 a1 a2 o4_1 q5_0_1 v8_1 x12 l14 u2 u3 k4) hI ?_
 ·rintro⟨o7_2,v10_2⟩ e h ⟨u18,k19,rfl,h_17⟩ o ho
  unfold F243_2_S at ho;dsimp only at ho;obtain⟨x21,gx21,ho⟩:=bS ho;have w22:ans A 99 [(eC a1),V.int .i64 v8_1]=some (V.int .i64 x21):=s99 a1 v8_1 gx21;by_cases c23:v10_2 < x21
  ·rw[if_pos c23]at ho
   obtain⟨x24,gx24,ho⟩:=bS ho;have w25:ans A 272 [V.int .i64 x21,V.int .i64 v10_2]=some (V.isl (x24.map Enc.enc)):=s272 x21 v10_2 gx24;obtain⟨x26,gx26,ho⟩:=bS ho;have w27:tans A 273 [1] [(eC a1),V.int .i64 v8_1,V.isl (x24.map Enc.enc)]=some (V.isl (x26.map Enc.enc)):=t273 a1 v8_1 x24 gx26;have w27t:=thaw_one (α:=Int) x26;obtain⟨x28,gx28,ho⟩:=bS ho;have wx28:=chk_w gx28;obtain⟨x29,gx29,ho⟩:=bS ho;have w30:ans A 99 [(eC a0),V.int .i64 x28]=some (V.int .i64 x29):=s99 a0 x28 gx29;obtain⟨l32,gl32,ho⟩:=bS ho;obtain⟨w31a,w31b,w31c,w31d,w31e,w31f⟩:=appZ_w gl32;replace w31f:List.map Enc.enc (List.replicate (Int.toNat x29) (0:Int))=(List.replicate (Int.toNat x29) [V.int .i64 0]).flatten:=w31f;have w31:=fun a b c d e=> appendV_w (α:=Int) (n:=x26.length) (m:=(Int.toNat x29)) (ds:=(List.replicate (Int.toNat x29) [V.int .i64 0]).flatten) w31d (by first|rfl|simp) w31e w31f a b c d e;have w31l:=app_len w31d;obtain⟨l34,gl34,ho⟩:=bS ho;have w33:=fun a b c d e=> appendV_w (α:=List Int) (n:=o7_2.length) (m:=1) (ds:=[V.isl (l32.map Enc.enc)]) gl34 (by first|rfl|simp) (by first|rfl|simp) rfl a b c d e;have w33l:=app_len gl34;obtain⟨x35,gx35,ho⟩:=bS ho;have wx35:=chk_w gx35;cases ho;simp only[simprocAttr, -Int.reduceNatCast',R0,b243_2,h_17,w22,eq_true c23,w25,w27,w27t,wx28,w30,w31a,w31b,w31c,w31,takes (α:=Int) l32,w33,wx35];refine ai rfl (ei _ (ei _ (ai rfl ?_)));simp only[simprocAttr, -Int.reduceNatCast',R0,h_17,w22,eq_true c23,w25,w27,w27t,wx28,w30,w31a,w31b,w31c,w31,takes (α:=Int) l32,w33,wx35]
  ·rw[if_neg c23]at ho
   cases ho;simp only[simprocAttr, -Int.reduceNatCast',R0,b243_2,h_17,w22,eq_false c23];intro ht; subst ht;simp only[simprocAttr, -Int.reduceNatCast',RR,RB];refine ai rfl (ei _ (ei _ (ai rfl ?_)));simp only[simprocAttr, -Int.reduceNatCast',R0,h_17,w22,eq_false c23]
def I243_4(a0:GComplex)(a1:GComplex)(a2:List (List (List Int)))(o4_1:List (List (List Int)))(q5_0_1:Int)(v8_1:Int)(x12:Int)(l14:List Int)(o7_3:List (List Int))(v11_3:Int)(u2 u3 k4 u38:Nat)(s:(List Int)×Int)(e:Env)(h:Heap):Prop:=
 match s with
 |(o8_4,v13_4)=>
  ∃u50 k51:Nat,h=⟨[(0,none),(0,none),(2,some [V.int .i64 0,V.nils,V.nils]),((appU 1 u2 (k4+1)),some (l14.map Enc.enc)),(u3,some (o4_1.map Enc.enc)),(5,some [V.int .i64 q5_0_1,V.sl 3 (appU 1 u2 (k4+1)) 0 l14.length 1,V.sl 4 u3 0 o4_1.length 1]),(k4,some [V.int .i64 x12]),(u38,some (o7_3.map Enc.enc)),(u50,some (o8_4.map Enc.enc))],k51⟩∧e.length=121∧e.at 2=V.isl (a2.map Enc.enc)∧e.at 3=V.iptr [V.int .i64 a0.Prime,V.isl (a0.Dims.map Enc.enc),V.isl (a0.Maps.map Enc.enc)]∧e.at 4=V.iptr [V.int .i64 a1.Prime,V.isl (a1.Dims.map Enc.enc),V.isl (a1.Maps.map Enc.enc)]∧e.at 6=V.ptr 2 2 0∧e.at 7=V.ptr 5 5 0∧e.at 8=V.int .i64 v8_1∧e.at 9=V.sl 7 u38 0 o7_3.length 1∧e.at 11=V.int .i64 v11_3∧e.at 12=V.sl 8 u50 0 o8_4.length 1∧e.at 13=V.int .i64 v13_4
def P243_4(a0:GComplex)(a1:GComplex)(a2:List (List (List Int)))(o4_1:List (List (List Int)))(q5_0_1:Int)(v8_1:Int)(x12:Int)(l14:List Int)(o7_3:List (List Int))(v11_3:Int)(u2 u3 k4 u38:Nat)(zo8_4:(List Int))(x:Ex)(e:Env)(h:Heap):Prop:=
 x= .normal∧∃u50 k51:Nat,h=⟨[(0,none),(0,none),(2,some [V.int .i64 0,V.nils,V.nils]),((appU 1 u2 (k4+1)),some (l14.map Enc.enc)),(u3,some (o4_1.map Enc.enc)),(5,some [V.int .i64 q5_0_1,V.sl 3 (appU 1 u2 (k4+1)) 0 l14.length 1,V.sl 4 u3 0 o4_1.length 1]),(k4,some [V.int .i64 x12]),(u38,some (o7_3.map Enc.enc)),(u50,some (zo8_4.map Enc.enc))],k51⟩∧e.length=121∧e.at 2=V.isl (a2.map Enc.enc)∧e.at 3=V.iptr [V.int .i64 a0.Prime,V.isl (a0.Dims.map Enc.enc),V.isl (a0.Maps.map Enc.enc)]∧e.at 4=V.iptr [V.int .i64 a1.Prime,V.isl (a1.Dims.map Enc.enc),V.isl (a1.Maps.map Enc.enc)]∧e.at 6=V.ptr 2 2 0∧e.at 7=V.ptr 5 5 0∧e.at 8=V.int .i64 v8_1∧e.at 9=V.sl 7 u38 0 o7_3.length 1∧e.at 11=V.int .i64 v11_3∧e.at 12=V.sl 8 u50 0 zo8_4.length 1
theorem l243_4(a0:GComplex)(a1:GComplex)(a2:List (List (List Int)))(o4_1:List (List (List Int)))(q5_0_1:Int)(v8_1:Int)(x12:Int)(l14:List Int)(o7_3:List (List Int))(v11_3:Int)(u2 u3 k4 u38:Nat){s:(List Int)×Int}{t:(List Int)}(hF:loopW (F243_4_S a0 a1 a2 o4_1 q5_0_1 v8_1 x12 l14 o7_3 v11_3) s=some t){e:Env}{h:Heap}(hI:I243_4 a0 a1 a2 o4_1 q5_0_1 v8_1 x12 l14 o7_3 v11_3 u2 u3 k4 u38 s e h):W A c243_4 e h (P243_4 a0 a1 a2 o4_1 q5_0_1 v8_1 x12 l14 o7_3 v11_3 u2 u3 k4 u38 t):=by
 show W A (.block 6 (.loop false b243_4)) e h _;rw[W_block];refine W_loop hF 9 (by rcases s with⟨_,_⟩; obtain⟨_,_,rfl,_⟩:=hI; rfl) (I243_4 a0 a1 a2 o4_1 q5_0_1 v8_1 x12 l14 o7_3 v11_3 u2 u3 k4 u38) hI ?_
 ·rintro⟨o8_4,v13_4⟩ e h ⟨u50,k51,rfl,h_49⟩ o ho
  unfold F243_4_S at ho;dsimp only at ho;by_cases c53:v13_4 < ((o8_4.length:Nat):Int)
  ·rw[if_pos c53]at ho
   obtain⟨x54,gx54,ho⟩:=bS ho;obtain⟨w55a,w55b⟩:=getI_w gx54;have w55c:=getI_lt gx54;have w55d:List.drop (Int.toNat v13_4) (o8_4.map Enc.enc)=(V.int .i64 x54)::List.drop ((Int.toNat v13_4)+1) (o8_4.map Enc.enc):=drop_enc w55b;obtain⟨x56,gx56,ho⟩:=bS ho;have wx56:=chk_w gx56;obtain⟨x57,gx57,ho⟩:=bS ho;have w58:ans A 127 [V.int .i64 a0.Prime,V.int .i64 x56]=some (V.int .i64 x57):=s127 a0.Prime x56 gx57;obtain⟨l59,gl59,ho⟩:=bS ho;obtain⟨w60a,w60b,w60c,w60d,w60e⟩:=setI_w gl59;replace w60e:List.take (Int.toNat v13_4) (o8_4.map Enc.enc)++[V.int .i64 x57]++List.drop (Int.toNat v13_4+1) (o8_4.map Enc.enc)=List.map Enc.enc l59:=w60e;obtain⟨x61,gx61,ho⟩:=bS ho;have wx61:=chk_w gx61;cases ho;simp only[simprocAttr,R0,b243_4,h_49,eq_true c53,w55a,w55b,w55c,w55d,wx56,w58,w60a,w60b,w60c,w60e,wx61];refine ai rfl (ei _ (ei _ (ai rfl ?_)));simp only[simprocAttr,R0,h_49,eq_true c53,w55a,w55b,w55c,w55d,wx56,w58,w60a,w60b,w60c,w60e,wx61,w60d]
  ·rw[if_neg c53]at ho
   cases ho;simp only[simprocAttr,R0,b243_4,h_49,eq_false c53];intro ht; subst ht;simp only[simprocAttr,RR,RB];refine ai rfl (ei _ (ei _ (ai rfl ?_)));simp only[simprocAttr,R0,h_49,eq_false c53]
def I243_3(a0:GComplex)(a1:GComplex)(a2:List (List (List Int)))(o4_1:List (List (List Int)))(q5_0_1:Int)(v8_1:Int)(x12:Int)(l14:List Int)(u2 u3 k4:Nat)(s:(List (List Int))×Int)(e:Env)(h:Heap):Prop:=
 match s with
 |(o7_3,v11_3)=>
  ∃u38 k39:Nat,h=⟨[(0,none),(0,none),(2,some [V.int .i64 0,V.nils,V.nils]),((appU 1 u2 (k4+1)),some (l14.map Enc.enc)),(u3,some (o4_1.map Enc.enc)),(5,some [V.int .i64 q5_0_1,V.sl 3 (appU 1 u2 (k4+1)) 0 l14.length 1,V.sl 4 u3 0 o4_1.length 1]),(k4,some [V.int .i64 x12]),(u38,some (o7_3.map Enc.enc))],k39⟩∧e.length=121∧e.at 2=V.isl (a2.map Enc.enc)∧e.at 3=V.iptr [V.int .i64 a0.Prime,V.isl (a0.Dims.map Enc.enc),V.isl (a0.Maps.map Enc.enc)]∧e.at 4=V.iptr [V.int .i64 a1.Prime,V.isl (a1.Dims.map Enc.enc),V.isl (a1.Maps.map Enc.enc)]∧e.at 6=V.ptr 2 2 0∧e.at 7=V.ptr 5 5 0∧e.at 8=V.int .i64 v8_1∧e.at 9=V.sl 7 u38 0 o7_3.length 1∧e.at 11=V.int .i64 v11_3
def P243_3(a0:GComplex)(a1:GComplex)(a2:List (List (List Int)))(o4_1:List (List (List Int)))(q5_0_1:Int)(v8_1:Int)(x12:Int)(l14:List Int)(u2 u3 k4:Nat)(zo7_3:(List (List Int)))(x:Ex)(e:Env)(h:Heap):Prop:=
 x= .normal∧∃u38 k39:Nat,h=⟨[(0,none),(0,none),(2,some [V.int .i64 0,V.nils,V.nils]),((appU 1 u2 (k4+1)),some (l14.map Enc.enc)),(u3,some (o4_1.map Enc.enc)),(5,some [V.int .i64 q5_0_1,V.sl 3 (appU 1 u2 (k4+1)) 0 l14.length 1,V.sl 4 u3 0 o4_1.length 1]),(k4,some [V.int .i64 x12]),(u38,some (zo7_3.map Enc.enc))],k39⟩∧e.length=121∧e.at 2=V.isl (a2.map Enc.enc)∧e.at 3=V.iptr [V.int .i64 a0.Prime,V.isl (a0.Dims.map Enc.enc),V.isl (a0.Maps.map Enc.enc)]∧e.at 4=V.iptr [V.int .i64 a1.Prime,V.isl (a1.Dims.map Enc.enc),V.isl (a1.Maps.map Enc.enc)]∧e.at 6=V.ptr 2 2 0∧e.at 7=V.ptr 5 5 0∧e.at 8=V.int .i64 v8_1∧e.at 9=V.sl 7 u38 0 zo7_3.length 1
theorem l243_3(a0:GComplex)(a1:GComplex)(a2:List (List (List Int)))(o4_1:List (List (List Int)))(q5_0_1:Int)(v8_1:Int)(x12:Int)(l14:List Int)(u2 u3 k4:Nat){s:(List (List Int))×Int}{t:(List (List Int))}(hF:loopW (F243_3_S a0 a1 a2 o4_1 q5_0_1 v8_1 x12 l14) s=some t){e:Env}{h:Heap}(hI:I243_3 a0 a1 a2 o4_1 q5_0_1 v8_1 x12 l14 u2 u3 k4 s e h):W A c243_3 e h (P243_3 a0 a1 a2 o4_1 q5_0_1 v8_1 x12 l14 u2 u3 k4 t):=by
 show W A (.block 4 (.loop false b243_3)) e h _;rw[W_block];refine W_loop hF 8 (by rcases s with⟨_,_⟩; obtain⟨_,_,rfl,_⟩:=hI; rfl) (I243_3 a0 a1 a2 o4_1 q5_0_1 v8_1 x12 l14 u2 u3 k4) hI ?_
 ·rintro⟨o7_3,v11_3⟩ e h ⟨u38,k39,rfl,h_37⟩ o ho
  unfold F243_3_S at ho;dsimp only at ho;obtain⟨x41,gx41,ho⟩:=bS ho;have wx41:=chk_w gx41;obtain⟨x42,gx42,ho⟩:=bS ho;have w43:ans A 99 [(eC a0),V.int .i64 x41]=some (V.int .i64 x42):=s99 a0 x41 gx42;by_cases c44:v11_3 < x42
  ·rw[if_pos c44]at ho
   obtain⟨x45,gx45,ho⟩:=bS ho;have w46:ans A 272 [V.int .i64 x42,V.int .i64 v11_3]=some (V.isl (x45.map Enc.enc)):=s272 x42 v11_3 gx45;obtain⟨x47,gx47,ho⟩:=bS ho;have w48:tans A 273 [1] [(eC a0),V.int .i64 x41,V.isl (x45.map Enc.enc)]=some (V.isl (x47.map Enc.enc)):=t273 a0 x41 x45 gx47;have w48t:=thaw_one (α:=Int) x47;obtain⟨zo8_4,gt62,ho⟩:=bS ho;simp only[simprocAttr,R0,b243_3,h_37,wx41,w43,eq_true c44,w46,w48,w48t];refine W.mono (l243_4 a0 a1 a2 o4_1 q5_0_1 v8_1 x12 l14 o7_3 v11_3 u2 u3 k4 u38 gt62 (ei _ (ei _ (ai rfl ?_)))) ?_
   ·simp only[simprocAttr,R0,h_37,wx41,w43,eq_true c44,w46,w48,w48t]
   rintro _ e _ ⟨rfl,u50,k51,rfl,h_52⟩;obtain⟨x63,gx63,ho⟩:=bS ho;obtain⟨w64a,w64b⟩:=getI_w gx63;obtain⟨x65,gx65,ho⟩:=bS ho;obtain⟨w66a,w66b⟩:=getI_w gx65;obtain⟨x67,gx67,ho⟩:=bS ho;have w68:tans A 94 [1] [V.isl (x65.map Enc.enc)]=some (V.isl (x67.map Enc.enc)):=t94 x65 gx67;have w68t:=thaw_one (α:=Int) x67;obtain⟨l70,gl70,ho⟩:=bS ho;have w69:=fun a b c d e=> appendV_w (α:=Int) (n:=x67.length) (m:=zo8_4.length) (ds:=List.map Enc.enc zo8_4) gl70 (by first|rfl|simp) (by first|rfl|simp) rfl a b c d e;have w69l:=app_len gl70;obtain⟨l72,gl72,ho⟩:=bS ho;have w71:=fun a b c d e=> appendV_w (α:=List Int) (n:=o7_3.length) (m:=1) (ds:=[V.isl (l70.map Enc.enc)]) gl72 (by first|rfl|simp) (by first|rfl|simp) rfl a b c d e;have w71l:=app_len gl72;obtain⟨x73,gx73,ho⟩:=bS ho;have wx73:=chk_w gx73;cases ho;simp only[simprocAttr,R0,h_52,eq_true c44,wx41,w64a,w64b,w66a,w66b,w68,w68t,w69,takes (α:=Int) l70,w71,wx73];refine ai rfl (ei _ (ei _ (ai rfl ?_)));simp only[simprocAttr,R0,h_52,eq_true c44,wx41,w64a,w64b,w66a,w66b,w68,w68t,w69,takes (α:=Int) l70,w71,wx73]
  ·rw[if_neg c44]at ho
   cases ho;simp only[simprocAttr,R0,b243_3,h_37,wx41,w43,eq_false c44];intro ht; subst ht;simp only[simprocAttr,RR,RB];refine ai rfl (ei _ (ei _ (ai rfl ?_)));simp only[simprocAttr,R0,h_37,wx41,w43,eq_false c44]
def I243_1(a0:GComplex)(a1:GComplex)(a2:List (List (List Int)))(s:(List Int)×(List (List (List Int)))×Int×Int)(e:Env)(h:Heap):Prop:=
 match s with
 |(o3_1,o4_1,q5_0_1,v8_1)=>
  ∃u2 u3 k4:Nat,h=⟨[(0,none),(0,none),(2,some [V.int .i64 0,V.nils,V.nils]),(u2,some (o3_1.map Enc.enc)),(u3,some (o4_1.map Enc.enc)),(5,some [V.int .i64 q5_0_1,V.sl 3 u2 0 o3_1.length 1,V.sl 4 u3 0 o4_1.length 1])],k4⟩∧e.length=121∧e.at 2=V.isl (a2.map Enc.enc)∧e.at 3=V.iptr [V.int .i64 a0.Prime,V.isl (a0.Dims.map Enc.enc),V.isl (a0.Maps.map Enc.enc)]∧e.at 4=V.iptr [V.int .i64 a1.Prime,V.isl (a1.Dims.map Enc.enc),V.isl (a1.Maps.map Enc.enc)]∧e.at 6=V.ptr 2 2 0∧e.at 7=V.ptr 5 5 0∧e.at 8=V.int .i64 v8_1
def P243_1(a0:GComplex)(a1:GComplex)(a2:List (List (List Int)))(t:(List Int)×(List (List (List Int)))×Int)(x:Ex)(e:Env)(h:Heap):Prop:=
 match t with
 |(zo3_1,zo4_1,zq5_0_1)=>
  x= .normal∧∃u2 u3 k4:Nat,h=⟨[(0,none),(0,none),(2,some [V.int .i64 0,V.nils,V.nils]),(u2,some (zo3_1.map Enc.enc)),(u3,some (zo4_1.map Enc.enc)),(5,some [V.int .i64 zq5_0_1,V.sl 3 u2 0 zo3_1.length 1,V.sl 4 u3 0 zo4_1.length 1])],k4⟩∧e.length=121∧e.at 6=V.ptr 2 2 0∧e.at 7=V.ptr 5 5 0
theorem l243_1(a0:GComplex)(a1:GComplex)(a2:List (List (List Int))){s:(List Int)×(List (List (List Int)))×Int×Int}{t:(List Int)×(List (List (List Int)))×Int}(hF:loopW (F243_1_S a0 a1 a2) s=some t){e:Env}{h:Heap}(hI:I243_1 a0 a1 a2 s e h):W A c243_1 e h (P243_1 a0 a1 a2 t):=by
 show W A (.block 0 (.loop false b243_1)) e h _;rw[W_block];refine W_loop hF 6 (by rcases s with⟨_,_,_,_⟩; obtain⟨_,_,_,rfl,_⟩:=hI; rfl) (I243_1 a0 a1 a2) hI ?_
 ·rintro⟨o3_1,o4_1,q5_0_1,v8_1⟩ e h ⟨u2,u3,k4,rfl,h_1⟩ o ho
  unfold F243_1_S at ho;dsimp only at ho;by_cases c6:v8_1≤(a0.Dims.length:Int)
  ·rw[if_pos c6]at ho
   obtain⟨x7,gx7,ho⟩:=bS ho;have w8:ans A 99 [(eC a1),V.int .i64 v8_1]=some (V.int .i64 x7):=s99 a1 v8_1 gx7;obtain⟨x9,gx9,ho⟩:=bS ho;have wx9:=chk_w gx9;obtain⟨x10,gx10,ho⟩:=bS ho;have w11:ans A 99 [(eC a0),V.int .i64 x9]=some (V.int .i64 x10):=s99 a0 x9 gx10;obtain⟨x12,gx12,ho⟩:=bS ho;have wx12:=chk_w gx12;obtain⟨l14,gl14,ho⟩:=bS ho;have w13:=fun a b c d e=> appendV_w (α:=Int) (n:=o3_1.length) (m:=1) (ds:=[V.int .i64 x12]) gl14 (by first|rfl|simp) (by first|rfl|simp) rfl a b c d e;have w13l:=app_len gl14;by_cases c15:v8_1=0
   ·rw[if_pos c15]at ho
    obtain⟨x16,gx16,ho⟩:=bS ho;have wx16:=chk_w gx16;cases ho;simp only[simprocAttr,R0,b243_1,h_1,eq_true c6,w8,wx9,w11,wx12,w13,eq_true c15,wx16];refine ai rfl (ei _ (ei _ (ei _ (ai rfl ?_))));simp only[simprocAttr,R0,h_1,eq_true c6,w8,wx9,w11,wx12,w13,eq_true c15,wx16]
   ·rw[if_neg c15]at ho
    obtain⟨zo7_2,gt36,ho⟩:=bS ho;simp only[simprocAttr,R0,b243_1,h_1,eq_true c6,w8,wx9,w11,wx12,w13,eq_false c15];refine W.mono (l243_2 a0 a1 a2 o4_1 q5_0_1 v8_1 x12 l14 u2 u3 k4 gt36 (ei _ (ei _ (ai rfl ?_)))) ?_
    ·simp only[simprocAttr,R0,h_1,eq_true c6,w8,wx9,w11,wx12,w13,eq_false c15]
    rintro _ e _ ⟨rfl,u18,k19,rfl,h_20⟩;obtain⟨zo7_3,gt74,ho⟩:=bS ho;simp only[simprocAttr,R0,h_20,eq_true c6,eq_false c15];refine W.mono (l243_3 a0 a1 a2 o4_1 q5_0_1 v8_1 x12 l14 u2 u3 k4 gt74 (ei _ (ei _ (ai rfl ?_)))) ?_
    ·simp only[simprocAttr,R0,h_20,eq_true c6,eq_false c15]
    rintro _ e _ ⟨rfl,u38,k39,rfl,h_40⟩;obtain⟨l76,gl76,ho⟩:=bS ho;have w75:=fun a b c d e=> appendV_w (α:=List (List Int)) (n:=o4_1.length) (m:=1) (ds:=[V.isl (zo7_3.map Enc.enc)]) gl76 (by first|rfl|simp) (by first|rfl|simp) rfl a b c d e;have w75l:=app_len gl76;obtain⟨x77,gx77,ho⟩:=bS ho;have wx77:=chk_w gx77;cases ho;simp only[simprocAttr,R0,h_40,eq_true c6,eq_false c15,takes (α:=List Int) zo7_3,w75,wx77];refine ai rfl (ei _ (ei _ (ei _ (ai rfl ?_))));simp only[simprocAttr,R0,h_40,eq_true c6,eq_false c15,takes (α:=List Int) zo7_3,w75,wx77]
  ·rw[if_neg c6]at ho
   cases ho;simp only[simprocAttr,R0,b243_1,h_1,eq_false c6];intro ht; subst ht;simp only[simprocAttr,RR,RB];refine ai rfl (ei _ (ei _ (ei _ (ai rfl ?_))));simp only[simprocAttr,R0,h_1,eq_false c6]
theorem s243(a0:GComplex)(a1:GComplex)(a2:List (List (List Int))){r:GComplex}(hF:F243 a0 a1 a2=some r):ans A 243 [(eC a0),(eC a1),V.isl (a2.map Enc.enc)]=some (Enc.enc r):=by
 refine ans_of (f:=p243) rfl rfl rfl fun e hl he=>?_;have h0_0:e.at 0=(eC a0):=he 0 _ rfl;have h1_0:e.at 1=(eC a1):=he 1 _ rfl;have h2_0:e.at 2=V.isl (a2.map Enc.enc):=he 2 _ rfl;have hl_0:e.length=121:=hl;clear he hl;show W A b243 e ⟨[],0⟩ _;unfold F243 at hF;obtain⟨⟨zo3_1,zo4_1,zq5_0_1⟩,gt78,hF⟩:=bS hF;dsimp only at hF;simp only[simprocAttr,R0,b243,hl_0,h0_0,h1_0,h2_0];refine W.mono (l243_1 a0 a1 a2 gt78 (ei _ (ei _ (ei _ (ai rfl ?_))))) ?_
 ·simp only[simprocAttr,R0,hl_0,h0_0,h1_0,h2_0]
 rintro _ e _ ⟨rfl,u2,u3,k4,rfl,h_5⟩;cases hF;simp only[simprocAttr,R0,h_5];exact fin_ret (by simp only[simprocAttr,R0,fn_out,p243,Rs.ev,take_len_self,h_5,frzs (α:=Int) zo3_1,takes (α:=Int) zo3_1,frzs (α:=List (List Int)) zo4_1,takes (α:=List (List Int)) zo4_1])
def F135_1_B(a0:Int)(a1:Int)(v5_1:Int)(s:Unit):Option ((Unit)⊕((Unit)⊕Int)):=
 (F127 a0 a1).bind fun x4=>
(chk (v5_1*x4)).bind fun x6=>
(remI x6 a0).bind fun x7=>
if x7=1 then
 some (.inr (.inr v5_1))
else
 some (.inl ())
def F135_1_D(a0:Int)(a1:Int)(v5_1:Int)(s:Unit):Option ((Unit)⊕Int):=
 some (.inl ())
def F135(a0:Int)(a1:Int):Option Int:=
 (forR 1 a0 (F135_1_B a0 a1) (F135_1_D a0 a1) ()).bind fun t10=> match t10 with
  | .inl _=>
   some 0
  | .inr r11=> some r11
def I135_1(a0:Int)(a1:Int)(v5_1:Int)(s:Unit)(e:Env)(h:Heap):Prop:=
 ∃k2:Nat,h=⟨[],k2⟩∧e.length=20∧e.at 0=V.int .i64 a0∧e.at 1=V.int .i64 a1∧e.at 5=V.int .i64 v5_1
def P135_1(a0:Int)(a1:Int)(t:(Unit)⊕Int)(x:Ex)(e:Env)(h:Heap):Prop:=
 match t with
 | .inl _=> x= .normal∧∃k2:Nat,h=⟨[],k2⟩∧e.length=20
 | .inr r=> x= .ret∧Fin p135 (Enc.enc r) .ret e h
theorem l135_1(a0:Int)(a1:Int){lo:Int}{s:Unit}{t:(Unit)⊕Int}(hF:forR lo a0 (F135_1_B a0 a1) (F135_1_D a0 a1) s=some t){e:Env}{h:Heap}(hI:I135_1 a0 a1 lo s e h):W A c135_1 e h (P135_1 a0 a1 t):=by
 show W A (.block 0 (.loop false b135_1)) e h _;rw[W_block];refine W_forR hF 0 (by obtain⟨_,rfl,_⟩:=hI; rfl) (I135_1 a0 a1) hI ?_ ?_
 ·rintro v5_1 _ e h ⟨k2,rfl,h_1⟩ hlt hw o ho
  unfold F135_1_B at ho;obtain⟨x4,gx4,ho⟩:=bS ho;have w5:ans A 127 [V.int .i64 a0,V.int .i64 a1]=some (V.int .i64 x4):=s127 a0 a1 gx4;obtain⟨x6,gx6,ho⟩:=bS ho;have wx6:=chk_w gx6;obtain⟨x7,gx7,ho⟩:=bS ho;obtain⟨w8a,w8b⟩:=rem_w gx7;by_cases c9:x7=1
  ·rw[if_pos c9]at ho
   cases ho;simp only[simprocAttr,R0,b135_1,h_1,eq_true hlt,hw,w5,wx6,eq_false w8a,w8b,eq_true c9];intro ht; subst ht;simp only[simprocAttr,RR,RB];exact ai rfl (fin_ret (by simp only[simprocAttr,R0,fn_out,p135,Rs.ev,take_len_self,h_1,eq_true hlt,hw,w5,wx6,eq_false w8a,w8b,eq_true c9]))
  ·rw[if_neg c9]at ho
   cases ho;simp only[simprocAttr,R0,b135_1,h_1,eq_true hlt,hw,w5,wx6,eq_false w8a,w8b,eq_false c9];refine ai rfl (ei _ (ai rfl ?_));simp only[simprocAttr,R0,h_1,eq_true hlt,hw,w5,wx6,eq_false w8a,w8b,eq_false c9]
 ·rintro v5_1 _ e h ⟨k2,rfl,h_1⟩ hge t1 ho
  unfold F135_1_D at ho;cases ho;simp only[simprocAttr,R0,b135_1,h_1,eq_false hge];intro ht; subst ht;refine ai rfl (ei _ (ai rfl ?_));simp only[simprocAttr,R0,h_1,eq_false hge]
theorem s135(a0:Int)(a1:Int){r:Int}(hF:F135 a0 a1=some r):ans A 135 [V.int .i64 a0,V.int .i64 a1]=some (Enc.enc r):=by
 refine ans_of (f:=p135) rfl rfl rfl fun e hl he=>?_;have h0_0:e.at 0=V.int .i64 a0:=he 0 _ rfl;have h1_0:e.at 1=V.int .i64 a1:=he 1 _ rfl;have hl_0:e.length=20:=hl;clear he hl;have h_0:=ai hl_0 (ai h0_0 h1_0);show W A b135 e ⟨[],0⟩ _;unfold F135 at hF;obtain⟨t10,gt10,hF⟩:=bS hF;rcases t10 with _|r11
 ·dsimp only at hF
  simp only[simprocAttr,R0,b135,h_0];refine W.mono (l135_1 a0 a1 gt10 (ei _ (ai rfl ?_))) ?_
  ·simp only[simprocAttr,R0,h_0]
  rintro _ e _ ⟨rfl,k2,rfl,hl_3⟩;cases hF;simp only[simprocAttr,R0,hl_3];exact fin_ret (by simp only[simprocAttr,R0,fn_out,p135,Rs.ev,take_len_self,hl_3])
 ·dsimp only at hF
  cases hF;simp only[simprocAttr,R0,b135,h_0];refine W.mono (l135_1 a0 a1 gt10 (ei _ (ai rfl ?_))) ?_
  ·simp only[simprocAttr,R0,h_0]
  rintro _ e h ⟨rfl,hq⟩;simp only[simprocAttr,RR,RB];exact hq
def F131_2_B(p b:Int)(k:Int)(row:List Int):Option (List Int⊕List Int):=(getI row k).bind fun x=>(chk (x*b)).bind fun m=>(remI m p).bind fun z=>(setI row k z).bind fun r=> some (.inl r)
def F131_2_D(k:Int)(row:List Int):Option (List Int):=some row
def F131_3_C(out:List (List Int))(at_:Int)(k:Int)(put:Bool):Option Bool:=if put=true then some false else(getI out k).bind fun o=>(F81 o).bind fun ld=> some (decide (at_ < ld))
def F131_3_B(p:Int)(out:List (List Int))(own:List Int)(at_:Int)(k:Int)(s:List (List Int)×Bool):Option ((List (List Int)×Bool)⊕(List (List Int)×Bool)):=
 (F131_3_C out at_ k s.2).bind fun c=>(if c=true then(app 24 s.1 [own]).bind fun n=> some (n,true)else some s).bind fun s2=>
 (getI out k).bind fun o=>(getI o at_).bind fun y=>(F136 p o own y).bind fun q=>(app 24 s2.1 [q]).bind fun n=> some (.inl (n,s2.2))
def F131_3_D(k:Int)(s:List (List Int)×Bool):Option (List (List Int)×Bool):=some s
def F131_1_B(p:Int)(rows:List (List Int))(i:Int)(out:List (List Int)):Option (List (List Int)⊕List (List Int)):=
 (getI rows i).bind fun row=>(F134 p out row).bind fun own=>(F81 own).bind fun at_=> if at_ < 0 then some (.inl out)else
 (getI own at_).bind fun x=>(F135 p x).bind fun inv=>(forR 0 (own.length:Int) (F131_2_B p inv) F131_2_D own).bind fun own'=>
 (forR 0 (out.length:Int) (F131_3_B p out own' at_) F131_3_D ([],false)).bind fun s=> if s.2=true then some (.inl s.1)else(app 24 s.1 [own']).bind fun n=> some (.inl n)
def F131_1_D(i:Int)(out:List (List Int)):Option (List (List Int)):=some out
def F131(p:Int)(rows:List (List Int)):Option (List (List Int)):=forR 0 (rows.length:Int) (F131_1_B p rows) F131_1_D []
theorem d131(p:Int)(rows:List (List Int)){r:List (List Int)}(hF:F131 p rows=some r):∃v h',res A 131 [V.int .i64 p,V.isl (rows.map Enc.enc)] Heap.empty=some (v,h')∧
  ∃k u vs,v=V.sl k u 0 r.length 1∧h'.ents[k]? =some (u,some vs)∧Rws h'.ents (fun _=> True) vs r:=by
 refine res_dp (f:=p131) rfl rfl rfl fun e hl he=>?_;have h0_0:e.at 0=V.int .i64 p:=he 0 _ rfl;have h1_0:e.at 1=V.isl (rows.map Enc.enc):=he 1 _ rfl;have hl_0:e.length=102:=hl;clear he hl;show W A b131 e ⟨[],0⟩ _;unfold F131 at hF;simp only[simprocAttr, -Int.reduceNatCast',R1,b131,hl_0,h0_0,h1_0];show W A (.block 0 (.loop true b131_1)) _ _ _;rw[W_block];refine W_forR hF _ rfl (fun i out e h=>∃ko uo vs,h.ents[ko]? =some (uo,some vs)∧Rws h.ents (fun _=> True) vs out∧e.length=102∧e.at 0=V.int .i64 p∧e.at 1=V.isl (rows.map Enc.enc)∧e.at 5=V.sl ko uo 0 out.length 1∧e.at 6=V.int .i64 i) ?_ ?_ ?_
 ·refine⟨0,0,[],rfl,.nil,?_⟩
  simp only[simprocAttr, -Int.reduceNatCast',R1,hl_0,h0_0,h1_0]
 ·clear hl_0 h0_0 h1_0
  rintro i out e ⟨E,c⟩ ⟨ko,uo,vs,g1,g2,hl_1,h0_1,h1_1,h5_1,h6_1⟩ hlt hw s' ho;unfold F131_1_B at ho;simp only at g1 g2;have hko:ko < E.length:=(List.getElem?_eq_some_iff.1 g1).1;obtain⟨row,gr,ho⟩:=bS ho;obtain⟨ra,rb⟩:=getI_w gr;obtain⟨own,gown,ho⟩:=bS ho;have wown:tans A 134 [1] [V.int .i64 p,V.isl (out.map Enc.enc),V.isl (row.map Enc.enc)]=some (V.isl (own.map Enc.enc)):=t134 p out row gown;obtain⟨at_,gat,ho⟩:=bS ho;have wat:ans A 81 [V.isl (own.map Enc.enc)]=some (V.int .i64 at_):=s81 own gat;have wfo:=g2.fz c g1;have wbr:=bare_one (α:=Int) own;have wfr:∀z:List Int,∀c',frz ⟨E++[(c,some (z.map Enc.enc))],c'⟩ 16 (V.sl E.length c 0 z.length 1)=some (V.isl (z.map Enc.enc)):=fun z c'=> frz_row (get_last _ _);have wfr0:=wfr own;by_cases hat:at_ < 0
  ·rw[if_pos hat]at ho
   have hE:=Option.some.inj ho; subst hE;simp only[simprocAttr, -Int.reduceNatCast',R1,b131_1,hl_1,h0_1,h1_1,h5_1,h6_1,eq_true hlt,hw,ra,rb,wfo,wown,wbr,callM_tans,thaw_one,wfr0,wat,eq_true hat];refine ai rfl ⟨ko,uo,vs,(List.getElem?_append_left hko).trans g1,g2.frame fun k hk _=>⟨List.getElem?_append_left hk,trivial⟩,?_⟩;simp only[simprocAttr, -Int.reduceNatCast',R1,hl_1,h0_1,h1_1,h5_1,h6_1,hw]
  ·rw[if_neg hat]at ho
   obtain⟨x,gx,ho⟩:=bS ho;obtain⟨xa,xb⟩:=getI_w gx;have xc:=getI_lt gx;obtain⟨inv,ginv,ho⟩:=bS ho;have winv:ans A 135 [V.int .i64 p,V.int .i64 x]=some (V.int .i64 inv):=s135 p x ginv;obtain⟨own',gown',ho⟩:=bS ho;obtain⟨s,gs,ho⟩:=bS ho;have ox:ofCells none (List.drop at_.toNat (own.map Enc.enc))=some (V.int .i64 x):=ofCells_drop (by rw[List.getElem?_map,xb]; rfl);simp only[simprocAttr, -Int.reduceNatCast',R1,b131_1,hl_1,h0_1,h1_1,h5_1,h6_1,eq_true hlt,hw,ra,rb,wfo,wown,wbr,callM_tans,thaw_one,wfr0,wat,eq_false hat,xa,eq_true xc,get_last,ox,winv];show W A (.block 2 (.loop true b131_2)) _ _ _;rw[W_block];refine W_forR gown' _ rfl (fun k q e h=> q.length=own.length∧h=⟨E++[(c,some (q.map Enc.enc))],c+1⟩∧e.length=102∧e.at 0=V.int .i64 p∧e.at 1=V.isl (rows.map Enc.enc)∧e.at 5=V.sl ko uo 0 out.length 1∧e.at 6=V.int .i64 i∧e.at 7=V.sl E.length c 0 own.length 1∧e.at 8=V.int .i64 at_∧e.at 9=V.int .i64 inv∧e.at 10=V.int .i64 k) ?_ ?_ ?_
   ·refine⟨rfl,rfl,?_⟩
    simp only[simprocAttr, -Int.reduceNatCast',R1,hl_1,h0_1,h1_1,h5_1,h6_1]
   ·clear hl_1 h0_1 h1_1 h5_1 h6_1
    rintro k q e h ⟨hq,rfl,hl_1,h0_1,h1_1,h5_1,h6_1,h7_1,h8_1,h9_1,h10_1⟩ hlt2 hw2 s2 ho2;unfold F131_2_B at ho2;obtain⟨x3,gx3,ho2⟩:=bS ho2;obtain⟨x3a,x3b⟩:=getI_w gx3;obtain⟨m3,gm3,ho2⟩:=bS ho2;have wm3:=chk_w gm3;obtain⟨z3,gz3,ho2⟩:=bS ho2;obtain⟨wz30,wz3⟩:=rem_w gz3;obtain⟨q2,gq2,ho2⟩:=bS ho2;obtain⟨s31,s32,s33,s34,s35⟩:=setI_w gq2;have hE:=Option.some.inj ho2; subst hE;have o3:ofCells none (List.drop k.toNat (q.map Enc.enc))=some (V.int .i64 x3):=ofCells_drop (by rw[List.getElem?_map,x3b]; rfl);have hk3:k < (own.length:Int):=hlt2;have s35':List.take k.toNat (q.map Enc.enc)++[V.int .i64 z3]++List.drop (k.toNat+1) (q.map Enc.enc)=List.map Enc.enc q2:=s35;simp only[simprocAttr, -Int.reduceNatCast',R1,b131_2,hl_1,h0_1,h1_1,h5_1,h6_1,h7_1,h8_1,h9_1,h10_1,hw2,eq_true hlt2,get_last,set_last,x3a,o3,wm3,wz30,wz3,s33,s35'];refine ai rfl ⟨by omega,rfl,?_⟩;simp only[simprocAttr, -Int.reduceNatCast',R1,hl_1,h0_1,h1_1,h5_1,h6_1,h7_1,h8_1,h9_1,h10_1,hw2]
   ·clear hl_1 h0_1 h1_1 h5_1 h6_1
    rintro k q e h ⟨hq,rfl,hl_1,h0_1,h1_1,h5_1,h6_1,h7_1,h8_1,h9_1,h10_1⟩ hge2 t2 ho2;unfold F131_2_D at ho2;have hE:=Option.some.inj ho2; subst hE;simp only[simprocAttr, -Int.reduceNatCast',R1,b131_2,hl_1,h0_1,h1_1,h5_1,h6_1,h7_1,h8_1,h9_1,h10_1,eq_false hge2,le1];intro ht; subst ht;show W A (.block 4 (.loop true b131_3)) _ _ _;rw[W_block];refine W_forR gs _ rfl (fun k s e h=>∃un vn,h.ents[E.length+1]? =some (un,some vn)∧Rws h.ents (fun k=> k≠E.length+1) vn s.1∧h.ents[E.length]? =some (c,some (q.map Enc.enc))∧(∀k,k < E.length→h.ents[k]? =E[k]?)∧e.length=102∧e.at 0=V.int .i64 p∧e.at 1=V.isl (rows.map Enc.enc)∧e.at 5=V.sl ko uo 0 out.length 1∧e.at 6=V.int .i64 i∧e.at 7=V.sl E.length c 0 q.length 1∧e.at 8=V.int .i64 at_∧e.at 11=V.sl (E.length+1) un 0 s.1.length 1∧e.at 12=V.bool s.2∧e.at 13=V.int .i64 k) ?_ ?_ ?_
    ·refine⟨c+1,[],ge2b ..,.nil,ge2a ..,fun k hk=> by rw[List.append_assoc]; exact List.getElem?_append_left hk,?_⟩
     simp only[simprocAttr, -Int.reduceNatCast',R1,hl_1,h0_1,h1_1,h5_1,h6_1,h7_1,h8_1,h9_1,h10_1,hq]
    ·clear hl_1 h0_1 h1_1 h5_1 h6_1 h7_1 h8_1 h9_1 h10_1
     rintro k ⟨nx,put⟩ e ⟨E3,c3⟩ ⟨un,vn,f1,f2,f3,f4,hl_1,h0_1,h1_1,h5_1,h6_1,h7_1,h8_1,h11_1,h12_1,h13_1⟩ hlt3 hw3 s3 ho3;unfold F131_3_B at ho3;simp only at f1 f2 f3 f4 h11_1 h12_1 ho3;obtain⟨cnd,gcnd,ho3⟩:=bS ho3;obtain⟨st,gst,ho3⟩:=bS ho3;obtain⟨o,go,ho3⟩:=bS ho3;obtain⟨oa,ob⟩:=getI_w go;have oc:=getI_lt go;obtain⟨y,gy,ho3⟩:=bS ho3;obtain⟨ya,yb⟩:=getI_w gy;have yc:=getI_lt gy;obtain⟨qq,gqq,ho3⟩:=bS ho3;have wqq:tans A 136 [1] [V.int .i64 p,V.isl (o.map Enc.enc),V.isl (q.map Enc.enc),V.int .i64 y]=some (V.isl (qq.map Enc.enc)):=t136 p o q y gqq;have wbq:=bare_one (α:=Int) qq;obtain⟨nn,gnn,ho3⟩:=bS ho3;have hE:=Option.some.inj ho3; subst hE;have hN1:E.length+1 < E3.length:=(List.getElem?_eq_some_iff.1 f1).1;have k1:E3[ko]? =some (uo,some vs):=(f4 ko hko).trans g1;obtain⟨v,v1,v2⟩:=g2.get ob;have ov:=ofCells_drop v1;have oy:ofCells none (List.drop at_.toNat (o.map Enc.enc))=some (V.int .i64 y):=ofCells_drop (by rw[List.getElem?_map,yb]; rfl);have v3:RRep E3 (fun k=> k < E.length) v o:=v2.frame fun k hk _=>⟨f4 k hk,hk⟩
     -- in any memory that keeps the rows
     have step:∀ (E4:List (Nat×Option (List V))) (c4 un4:Nat) (vn4:List V),E4[E.length+1]? =some (un4,some vn4)→Rws E4 (fun k=> k≠E.length+1) vn4 st.1→E4[E.length]? =some (c,some (q.map Enc.enc))→(∀k,k < E.length→E4[k]? =E[k]?)→
       E4[ko]? =some (uo,some vs)∧frz ⟨E4,c4⟩ 16 v=some (V.isl (o.map Enc.enc))∧frz ⟨E4,c4⟩ 16 (V.sl E.length c 0 q.length 1)=some (V.isl (q.map Enc.enc))∧
       appendV 1 24 (.sl (E.length+1) un4 0 st.1.length 1) 1 [V.sl E4.length c4 0 qq.length 1] ⟨E4++[(c4,some (qq.map Enc.enc))]++[(c4+1,some [V.sl E4.length c4 0 qq.length 1])],c4+1+1⟩=some (.sl (E.length+1) (c4+1+1) 0 (st.1.length+1) 1,⟨(E4++[(c4,some (qq.map Enc.enc))]++[(c4+1,some [V.sl E4.length c4 0 qq.length 1])]).set (E.length+1) (c4+1+1,some (vn4++[V.sl E4.length c4 0 qq.length 1])),c4+1+1+1⟩)∧
       RRep E4 (fun k=> k < E.length) v o∧
       (((E4++[(c4,some (qq.map Enc.enc))]++[(c4+1,some [V.sl E4.length c4 0 qq.length 1])]).set (E.length+1) (c4+1+1,some (vn4++[V.sl E4.length c4 0 qq.length 1])))[E.length+1]? =some (c4+1+1,some (vn4++[V.sl E4.length c4 0 qq.length 1]))∧
       Rws ((E4++[(c4,some (qq.map Enc.enc))]++[(c4+1,some [V.sl E4.length c4 0 qq.length 1])]).set (E.length+1) (c4+1+1,some (vn4++[V.sl E4.length c4 0 qq.length 1]))) (fun k=> k≠E.length+1) (vn4++[V.sl E4.length c4 0 qq.length 1]) nn∧
       ((E4++[(c4,some (qq.map Enc.enc))]++[(c4+1,some [V.sl E4.length c4 0 qq.length 1])]).set (E.length+1) (c4+1+1,some (vn4++[V.sl E4.length c4 0 qq.length 1])))[E.length]? =some (c,some (q.map Enc.enc))∧
       (∀k,k < E.length→((E4++[(c4,some (qq.map Enc.enc))]++[(c4+1,some [V.sl E4.length c4 0 qq.length 1])]).set (E.length+1) (c4+1+1,some (vn4++[V.sl E4.length c4 0 qq.length 1])))[k]? =E[k]?)∧nn.length=st.1.length+1):=by
      intro E4 c4 un4 vn4 a1 a2 a3 a4;have hN4:E.length+1 < E4.length:=(List.getElem?_eq_some_iff.1 a1).1;obtain⟨p1,p2,rfl⟩:=app_w gnn;have pre:∀x y (k:Nat),k < E4.length→(E4++[x]++[y])[k]? =E4[k]?:=fun x y k hk=> by rw[List.append_assoc]; exact List.getElem?_append_left hk
      refine⟨(a4 ko hko).trans g1,(v2.frame (B':=fun _=> True) fun k hk _=>⟨a4 k hk,trivial⟩).fz c4 10,frz_row a3,appendV_deep (E:=E4++[(c4,some (qq.map Enc.enc))]++[(c4+1,some [V.sl E4.length c4 0 qq.length 1])]) ((pre _ _ _ hN4).trans a1) a2.len (by simpa using p1) (by simpa using p2),v2.frame fun k hk _=>⟨a4 k hk,hk⟩,set_app_key (by simp; omega),?_,?_,fun k hk=>?_,by simp⟩
      ·exact(a2.frame fun k hk hne=>⟨(set_ne hne).trans (pre _ _ k hk),hne⟩).snoc ⟨_,_,rfl,(set_ne (by omega)).trans (ge2a ..),by omega⟩
      ·exact(set_ne (by omega)).trans ((pre _ _ _ (by omega)).trans a3)
      ·exact(set_ne (by omega)).trans ((pre _ _ k (by omega)).trans (a4 k hk))
     have hoc:k < (out.length:Int):=oc;cases put with
     |true=>
      unfold F131_3_C at gcnd;rw[if_pos rfl]at gcnd;cases gcnd;rw[if_neg Bool.false_ne_true]at gst;cases gst;obtain⟨b1,b2,b3,b4,b5,b6,b7,b8,b9,b10⟩:=step E3 c3 un vn f1 f2 f3 f4;simp only at b4 b10;obtain⟨kv,uv,rfl,w2,w3⟩:=b5;simp only[simprocAttr, -Int.reduceNatCast',R1,b131_3,hl_1,h0_1,h1_1,h5_1,h6_1,h7_1,h8_1,h11_1,h12_1,h13_1,hw3,eq_true hlt3,oa,k1,ov,ya,eq_true yc,oy,w2,b2,b3,wqq,wbq,callM_tans,thaw_one,le1,get_last,ge2a,ge2b,b4];refine ai rfl ⟨_,_,b6,b7,b8,b9,?_⟩;simp only[simprocAttr, -Int.reduceNatCast',R1,hl_1,h0_1,h1_1,h5_1,h6_1,h7_1,h8_1,h11_1,h12_1,h13_1,hw3,b10]
     |false=>
      unfold F131_3_C at gcnd;rw[if_neg Bool.false_ne_true,go,Option.bind_some]at gcnd;obtain⟨ld,gld,gcnd⟩:=bS gcnd;have wld:ans A 81 [V.isl (o.map Enc.enc)]=some (V.int .i64 ld):=s81 o gld;have hE:=Option.some.inj gcnd; subst hE;have wfv:=(v2.frame (E':=E3) (B':=fun _=> True) fun k hk _=>⟨f4 k hk,trivial⟩).fz c3 10;by_cases hld:at_ < ld
      ·rw[if_pos (by simpa using hld)]at gst
       obtain⟨n1,gn1,gst⟩:=bS gst;obtain⟨p1,p2,rfl⟩:=app_w gn1;have hE:=Option.some.inj gst; subst hE;have wap:appendV 1 24 (.sl (E.length+1) un 0 nx.length 1) 1 [V.sl E.length c 0 q.length 1] ⟨E3++[(c3,some [V.sl E.length c 0 q.length 1])],c3+1⟩=_:=appendV_deep (E:=E3++[(c3,some [V.sl E.length c 0 q.length 1])]) (by rw[List.getElem?_append_left hN1]; exact f1) f2.len (by simpa using p1) (by simpa using p2);have r1:Rws ((E3++[(c3,some [V.sl E.length c 0 q.length 1])]).set (E.length+1) (c3+1,some (vn++[V.sl E.length c 0 q.length 1]))) (fun k=> k≠E.length+1) (vn++[V.sl E.length c 0 q.length 1]) (nx++[q]):=
        (f2.frame fun k hk hne=>⟨(set_ne hne).trans (List.getElem?_append_left hk),hne⟩).snoc ⟨_,_,rfl,(set_ne (by omega)).trans ((List.getElem?_append_left (by omega)).trans f3),by omega⟩
       have hln:(nx++[q]).length=nx.length+1:=by simp
       obtain⟨b1,b2,b3,b4,b5,b6,b7,b8,b9,b10⟩:=step ((E3++[(c3,some [V.sl E.length c 0 q.length 1])]).set (E.length+1) (c3+1,some (vn++[V.sl E.length c 0 q.length 1]))) (c3+1+1) (c3+1) (vn++[V.sl E.length c 0 q.length 1]) (set_app_key (by simp; omega)) r1 ((set_ne (by omega)).trans ((List.getElem?_append_left (by omega)).trans f3)) (fun k hk=>(set_ne (by omega)).trans ((List.getElem?_append_left (by omega)).trans (f4 k hk)));have hlb:((E3++[(c3,some [V.sl E.length c 0 q.length 1])]).set (E.length+1) (c3+1,some (vn++[V.sl E.length c 0 q.length 1]))).length=E3.length+1:=by simp
       have hge:=fun y z=> ge2b ((E3++[(c3,some [V.sl E.length c 0 q.length 1])]).set (E.length+1) (c3+1,some (vn++[V.sl E.length c 0 q.length 1]))) y z;simp only[hlb]at hge;simp only[hln,hlb]at b4 b6 b7 b8 b9 b10;obtain⟨kv,uv,rfl,w2,w3⟩:=b5;simp only[simprocAttr, -Int.reduceNatCast',R1,b131_3,hl_1,h0_1,h1_1,h5_1,h6_1,h7_1,h8_1,h11_1,h12_1,h13_1,hw3,eq_true hlt3,oa,k1,ov,wfv,wld,eq_true hld,ya,eq_true yc,oy,w2,b1,b2,b3,wap,wqq,wbq,callM_tans,thaw_one,le1,hlb,hge,get_last,ge2a,ge2b,b4];refine ai rfl ⟨_,_,b6,b7,b8,b9,?_⟩;simp only[simprocAttr, -Int.reduceNatCast',R1,hl_1,h0_1,h1_1,h5_1,h6_1,h7_1,h8_1,h11_1,h12_1,h13_1,hw3,b10]
      ·rw[if_neg (by simpa using hld)]at gst
       have hE:=Option.some.inj gst; subst hE;obtain⟨b1,b2,b3,b4,b5,b6,b7,b8,b9,b10⟩:=step E3 c3 un vn f1 f2 f3 f4;simp only at b4 b10;obtain⟨kv,uv,rfl,w2,w3⟩:=b5;simp only[simprocAttr, -Int.reduceNatCast',R1,b131_3,hl_1,h0_1,h1_1,h5_1,h6_1,h7_1,h8_1,h11_1,h12_1,h13_1,hw3,eq_true hlt3,oa,k1,ov,wfv,wld,eq_false hld,ya,eq_true yc,oy,w2,b2,b3,wqq,wbq,callM_tans,thaw_one,le1,get_last,ge2a,ge2b,b4];refine ai rfl ⟨_,_,b6,b7,b8,b9,?_⟩;simp only[simprocAttr, -Int.reduceNatCast',R1,hl_1,h0_1,h1_1,h5_1,h6_1,h7_1,h8_1,h11_1,h12_1,h13_1,hw3,b10]
    ·clear hl_1 h0_1 h1_1 h5_1 h6_1 h7_1 h8_1 h9_1 h10_1
     rintro k ⟨nx,put⟩ e ⟨E3,c3⟩ ⟨un,vn,f1,f2,f3,f4,hl_1,h0_1,h1_1,h5_1,h6_1,h7_1,h8_1,h11_1,h12_1,h13_1⟩ hge3 t3 ho3;unfold F131_3_D at ho3;have hE:=Option.some.inj ho3; subst hE;simp only at f1 f2 f3 f4 h11_1 h12_1;have hN1:E.length+1 < E3.length:=(List.getElem?_eq_some_iff.1 f1).1;cases put with
     |true=>
      simp only[simprocAttr, -Int.reduceNatCast',R1,b131_3,hl_1,h0_1,h1_1,h5_1,h6_1,h7_1,h8_1,h11_1,h12_1,h13_1,eq_false hge3,hw];intro ht; subst ht;simp only[if_true]at ho;have hE:=Option.some.inj ho; subst hE;refine ai rfl ⟨E.length+1,un,vn,f1,f2.frame fun k hk _=>⟨rfl,trivial⟩,?_⟩;simp only[simprocAttr, -Int.reduceNatCast',R1,hl_1,h0_1,h1_1,h5_1,h6_1,h7_1,h8_1,h11_1,h12_1,h13_1]
     |false=>
      simp only[simprocAttr, -Int.reduceNatCast',R1,b131_3,hl_1,h0_1,h1_1,h5_1,h6_1,h7_1,h8_1,h11_1,h12_1,h13_1,eq_false hge3,hw,le1,get_last];intro ht; subst ht;rw[if_neg Bool.false_ne_true]at ho;obtain⟨n1,gn1,ho⟩:=bS ho;obtain⟨p1,p2,rfl⟩:=app_w gn1;have hE:=Option.some.inj ho; subst hE;have wap:appendV 1 24 (.sl (E.length+1) un 0 nx.length 1) 1 [V.sl E.length c 0 q.length 1] ⟨E3++[(c3,some [V.sl E.length c 0 q.length 1])],c3+1⟩=_:=appendV_deep (E:=E3++[(c3,some [V.sl E.length c 0 q.length 1])]) (by rw[List.getElem?_append_left hN1]; exact f1) f2.len (by simpa using p1) (by simpa using p2);have r1:Rws ((E3++[(c3,some [V.sl E.length c 0 q.length 1])]).set (E.length+1) (c3+1,some (vn++[V.sl E.length c 0 q.length 1]))) (fun k=> k≠E.length+1) (vn++[V.sl E.length c 0 q.length 1]) (nx++[q]):=
       (f2.frame fun k hk hne=>⟨(set_ne hne).trans (List.getElem?_append_left hk),hne⟩).snoc ⟨_,_,rfl,(set_ne (by omega)).trans ((List.getElem?_append_left (by omega)).trans f3),by omega⟩
      simp only[simprocAttr, -Int.reduceNatCast',R1,b131_3,hl_1,h0_1,h1_1,h5_1,h6_1,h7_1,h8_1,h11_1,h12_1,h13_1,eq_false hge3,hw,le1,get_last,wap];refine ai rfl ⟨E.length+1,c3+1,_,set_app_key (by simp; omega),r1.frame fun k hk _=>⟨rfl,trivial⟩,?_⟩;simp only[simprocAttr, -Int.reduceNatCast',R1,hl_1,h0_1,h1_1,h5_1,h6_1,h7_1,h8_1,h11_1,h12_1,h13_1,List.length_append]
 ·clear hl_0 h0_0 h1_0
  rintro i out e ⟨E,c⟩ ⟨ko,uo,vs,g1,g2,hl_1,h0_1,h1_1,h5_1,h6_1⟩ hge t1 ho;unfold F131_1_D at ho;have hE:=Option.some.inj ho; subst hE;simp only at g1 g2;simp only[simprocAttr, -Int.reduceNatCast',R1,b131_1,hl_1,h0_1,h1_1,h5_1,h6_1,eq_false hge];intro ht; subst ht;refine ai (fun _=> trivial) ⟨_,?_,ko,uo,vs,rfl,g1,g2⟩;simp only[simprocAttr, -Int.reduceNatCast',R1,fn_out,p131,Rs.ev,hl_1,h5_1]
theorem s131(p:Int)(rows:List (List Int)){r:List (List Int)}(hF:F131 p rows=some r):ans A 131 [V.int .i64 p,V.isl (rows.map Enc.enc)]=some (Enc.enc r):=by
 obtain⟨_,h',h1,k,u,vs,rfl,h2,h3⟩:=d131 p rows hF;have:=h3.fz h'.clk h2;unfold ans;rw[h1];exact this
def F251(a0:GComplex)(a1:Int):Option (List (List Int)):=
 (chk (a1+1)).bind fun x1=>
 (F76 a0 x1).bind fun x2=>
 (F131 a0.Prime x2).bind fun x4=>
 some x4
theorem s251(a0:GComplex)(a1:Int){r:List (List Int)}(hF:F251 a0 a1=some r):ans A 251 [(eC a0),V.int .i64 a1]=some (Enc.enc r):=by
 refine ans_of (f:=p251) rfl rfl rfl fun e hl he=>?_;have h0_0:e.at 0=(eC a0):=he 0 _ rfl;have h1_0:e.at 1=V.int .i64 a1:=he 1 _ rfl;have hl_0:e.length=12:=hl;clear he hl;show W A b251 e ⟨[],0⟩ _;unfold F251 at hF;obtain⟨x1,gx1,hF⟩:=bS hF;have wx1:=chk_w gx1;obtain⟨x2,gx2,hF⟩:=bS hF;have w3:ans A 76 [(eC a0),V.int .i64 x1]=some (V.isl (x2.map Enc.enc)):=s76 a0 x1 gx2;obtain⟨x4,gx4,hF⟩:=bS hF;have w5:ans A 131 [V.int .i64 a0.Prime,V.isl (x2.map Enc.enc)]=some (V.isl (x4.map Enc.enc)):=s131 a0.Prime x2 gx4;cases hF;simp only[simprocAttr,R0,b251,hl_0,h0_0,h1_0,wx1,w3,w5];exact fin_ret (by simp only[simprocAttr,R0,fn_out,p251,Rs.ev,take_len_self,hl_0,h0_0,h1_0,wx1,w3,w5])
def F122_1_B(a0:Int)(a1:Int)(a2:List (List Int))(v9_1:Int)(s:(List (List Int))×Int):Option (((List (List Int))×Int)⊕((List (List Int))×Int)):=
 match s with
 |(o0_1,v8_1)=>
  (mkL 8 a1 0).bind fun l5=>
  (getI l5 v9_1).bind fun x7=>
  (setI l5 v9_1 1).bind fun l9=>
  (getI a2 v9_1).bind fun x11=>
  (F94 x11).bind fun x13=>
  (app 8 x13 l9).bind fun l16=>
  (app 24 o0_1 [l16]).bind fun l18=>
  some (.inl (l18,(x11.length:Int)))
def F122_1_D(a0:Int)(a1:Int)(a2:List (List Int))(v9_1:Int)(s:(List (List Int))×Int):Option ((List (List Int))×Int):=
 match s with
 |(o0_1,v8_1)=>
  some (o0_1,v8_1)
def F122_2_B(zv8_1:Int)(x20:List (List Int))(v13_2:Int)(o1_2:(List (List Int))):Option (((List (List Int)))⊕((List (List Int)))):=
 (getI x20 v13_2).bind fun x26=>
(F81 x26).bind fun x28=>
if zv8_1≤x28 then
 (slI x26 zv8_1 (x26.length:Int)).bind fun l31=>
 (F94 l31).bind fun x33=>
 (app 24 o1_2 [x33]).bind fun l36=>
 some (.inl l36)
else
 some (.inl o1_2)
def F122_2_D(zv8_1:Int)(x20:List (List Int))(v13_2:Int)(o1_2:(List (List Int))):Option ((List (List Int))):=
 some o1_2
def F122(a0:Int)(a1:Int)(a2:List (List Int)):Option (List (List Int)):=
 (forR 0 a1 (F122_1_B a0 a1 a2) (F122_1_D a0 a1 a2) ([],0)).bind fun t19=> match t19 with
  |(zo0_1,zv8_1)=>
   (F131 a0 zo0_1).bind fun x20=>
   (forR 0 (x20.length:Int) (F122_2_B zv8_1 x20) (F122_2_D zv8_1 x20) ([]:(List (List Int)))).bind fun zo1_2=>
   some zo1_2
def I122_1(a0:Int)(a1:Int)(a2:List (List Int))(v9_1:Int)(s:(List (List Int))×Int)(e:Env)(h:Heap):Prop:=
 match s with
 |(o0_1,v8_1)=>
  ∃u2 k3:Nat,h=⟨[(u2,some (o0_1.map Enc.enc))],k3⟩∧e.length=68∧e.at 0=V.int .i64 a0∧e.at 1=V.int .i64 a1∧e.at 2=V.isl (a2.map Enc.enc)∧e.at 7=V.sl 0 u2 0 o0_1.length 1∧e.at 8=V.int .i64 v8_1∧e.at 9=V.int .i64 v9_1
def P122_1(a0:Int)(a1:Int)(a2:List (List Int))(t:(List (List Int))×Int)(x:Ex)(e:Env)(h:Heap):Prop:=
 match t with
 |(zo0_1,zv8_1)=>
  x= .normal∧∃u2 k3:Nat,h=⟨[(u2,some (zo0_1.map Enc.enc))],k3⟩∧e.length=68∧e.at 0=V.int .i64 a0∧e.at 7=V.sl 0 u2 0 zo0_1.length 1∧e.at 8=V.int .i64 zv8_1
theorem l122_1(a0:Int)(a1:Int)(a2:List (List Int)){lo:Int}{s:(List (List Int))×Int}{t:(List (List Int))×Int}(hF:forR lo a1 (F122_1_B a0 a1 a2) (F122_1_D a0 a1 a2) s=some t){e:Env}{h:Heap}(hI:I122_1 a0 a1 a2 lo s e h):W A c122_1 e h (P122_1 a0 a1 a2 t):=by
 show W A (.block 0 (.loop false b122_1)) e h _;rw[W_block];refine W_forR hF 1 (by rcases s with⟨_,_⟩; obtain⟨_,_,rfl,_⟩:=hI; rfl) (I122_1 a0 a1 a2) hI ?_ ?_
 ·rintro v9_1 ⟨o0_1,v8_1⟩ e h ⟨u2,k3,rfl,h_1⟩ hlt hw o ho
  unfold F122_1_B at ho;dsimp only at ho;obtain⟨l5,gl5,ho⟩:=bS ho;obtain⟨w6a,w6b,w6c,w6d,w6e⟩:=mkL_w gl5;replace w6e:(List.replicate (Int.toNat a1) [V.int .i64 0]).flatten=List.map Enc.enc l5:=w6e;obtain⟨x7,gx7,ho⟩:=bS ho;obtain⟨w8a,w8b⟩:=getI_w gx7;have w8c:=getI_lt gx7;replace w8c:v9_1 < (((Int.toNat a1):Nat):Int):=by first|exact w8c|(simp only[w6d]at w8c ⊢; exact w8c)
  have w8d:List.drop (Int.toNat v9_1) (l5.map Enc.enc)=(V.int .i64 x7)::List.drop ((Int.toNat v9_1)+1) (l5.map Enc.enc):=drop_enc w8b;obtain⟨l9,gl9,ho⟩:=bS ho;obtain⟨w10a,w10b,w10c,w10d,w10e⟩:=setI_w gl9;replace w10e:List.take (Int.toNat v9_1) (l5.map Enc.enc)++[V.int .i64 1]++List.drop (Int.toNat v9_1+1) (l5.map Enc.enc)=List.map Enc.enc l9:=w10e;obtain⟨x11,gx11,ho⟩:=bS ho;obtain⟨w12a,w12b⟩:=getI_w gx11;obtain⟨x13,gx13,ho⟩:=bS ho;have w14:tans A 94 [1] [V.isl (x11.map Enc.enc)]=some (V.isl (x13.map Enc.enc)):=t94 x11 gx13;have w14t:=thaw_one (α:=Int) x13;obtain⟨l16,gl16,ho⟩:=bS ho;have w15:=fun a b c d e=> appendV_w (α:=Int) (n:=x13.length) (m:=(Int.toNat a1)) (ds:=List.map Enc.enc l9) gl16 (by first|rfl|simp only[w6d,w10d]) (by first|rfl|simp only[w6d,w10d]) rfl a b c d e;have w15l:=app_len gl16;obtain⟨l18,gl18,ho⟩:=bS ho;have w17:=fun a b c d e=> appendV_w (α:=List Int) (n:=o0_1.length) (m:=1) (ds:=[V.isl (l16.map Enc.enc)]) gl18 (by first|rfl|simp only[w6d,w10d]) (by first|rfl|simp only[w6d,w10d]) rfl a b c d e;have w17l:=app_len gl18;cases ho;simp only[simprocAttr, -Int.reduceNatCast',R0,b122_1,h_1,eq_true hlt,hw,w6a,w6b,w6c,w6e,w8a,w8b,w8c,w8d,w10a,w10b,w10c,w10e,w12a,w12b,w14,w14t,take_len (α:=Int) (l:=l9) (n:=(Int.toNat a1)) (by first|rfl|simp only[w6d,w10d]),eq_true (le_of_len (l:=l9) (n:=(Int.toNat a1)) (by first|rfl|simp only[w6d,w10d])),w15,takes (α:=Int) l16,w17];refine ai rfl (ei _ (ei _ (ai rfl ?_)));simp only[simprocAttr, -Int.reduceNatCast',R0,h_1,eq_true hlt,hw,w6a,w6b,w6c,w6e,w8a,w8b,w8c,w8d,w10a,w10b,w10c,w10e,w12a,w12b,w14,w14t,take_len (α:=Int) (l:=l9) (n:=(Int.toNat a1)) (by first|rfl|simp only[w6d,w10d]),eq_true (le_of_len (l:=l9) (n:=(Int.toNat a1)) (by first|rfl|simp only[w6d,w10d])),w15,takes (α:=Int) l16,w17,w6d,w10d]
 ·rintro v9_1 ⟨o0_1,v8_1⟩ e h ⟨u2,k3,rfl,h_1⟩ hge t1 ho
  unfold F122_1_D at ho;dsimp only at ho;cases ho;simp only[simprocAttr, -Int.reduceNatCast',R0,b122_1,h_1,eq_false hge];intro ht; subst ht;refine ai rfl (ei _ (ei _ (ai rfl ?_)));simp only[simprocAttr, -Int.reduceNatCast',R0,h_1,eq_false hge]
def I122_2(zv8_1:Int)(x20:List (List Int))(v13_2:Int)(o1_2:(List (List Int)))(e:Env)(h:Heap):Prop:=
 ∃u23 k24:Nat,h=⟨[(0,none),(u23,some (o1_2.map Enc.enc))],k24⟩∧e.length=68∧e.at 8=V.int .i64 zv8_1∧e.at 11=V.isl (x20.map Enc.enc)∧e.at 12=V.sl 1 u23 0 o1_2.length 1∧e.at 13=V.int .i64 v13_2
def P122_2(zv8_1:Int)(x20:List (List Int))(zo1_2:(List (List Int)))(x:Ex)(e:Env)(h:Heap):Prop:=
 x= .normal∧∃u23 k24:Nat,h=⟨[(0,none),(u23,some (zo1_2.map Enc.enc))],k24⟩∧e.length=68∧e.at 12=V.sl 1 u23 0 zo1_2.length 1
theorem l122_2(zv8_1:Int)(x20:List (List Int)){lo:Int}{s:(List (List Int))}{t:(List (List Int))}(hF:forR lo (x20.length:Int) (F122_2_B zv8_1 x20) (F122_2_D zv8_1 x20) s=some t){e:Env}{h:Heap}(hI:I122_2 zv8_1 x20 lo s e h):W A c122_2 e h (P122_2 zv8_1 x20 t):=by
 show W A (.block 2 (.loop false b122_2)) e h _;rw[W_block];refine W_forR hF 2 (by obtain⟨_,_,rfl,_⟩:=hI; rfl) (I122_2 zv8_1 x20) hI ?_ ?_
 ·rintro v13_2 o1_2 e h ⟨u23,k24,rfl,h_22⟩ hlt hw o ho
  unfold F122_2_B at ho;obtain⟨x26,gx26,ho⟩:=bS ho;obtain⟨w27a,w27b⟩:=getI_w gx26;obtain⟨x28,gx28,ho⟩:=bS ho;have w29:ans A 81 [V.isl (x26.map Enc.enc)]=some (V.int .i64 x28):=s81 x26 gx28;by_cases c30:zv8_1≤x28
  ·rw[if_pos c30]at ho
   obtain⟨l31,gl31,ho⟩:=bS ho;have w32:sliceV 1 (V.isl (x26.map Enc.enc)) (some (V.int .i64 zv8_1)) none=some (V.isl (l31.map Enc.enc)):=sliceV_w (α:=Int) One.one gl31 (.inr rfl) (.inl ⟨rfl,rfl⟩);obtain⟨x33,gx33,ho⟩:=bS ho;have w34:ans A 94 [V.isl (l31.map Enc.enc)]=some (V.isl (x33.map Enc.enc)):=s94 l31 gx33;obtain⟨l36,gl36,ho⟩:=bS ho;have w35:=fun a b c d e=> appendV_w (α:=List Int) (n:=o1_2.length) (m:=1) (ds:=[V.isl (x33.map Enc.enc)]) gl36 (by first|rfl|simp) (by first|rfl|simp) rfl a b c d e;have w35l:=app_len gl36;cases ho;simp only[simprocAttr,R0,b122_2,h_22,eq_true hlt,hw,w27a,w27b,w29,eq_true c30,w32,w34,w35];refine ai rfl (ei _ (ei _ (ai rfl ?_)));simp only[simprocAttr,R0,h_22,eq_true hlt,hw,w27a,w27b,w29,eq_true c30,w32,w34,w35]
  ·rw[if_neg c30]at ho
   cases ho;simp only[simprocAttr,R0,b122_2,h_22,eq_true hlt,hw,w27a,w27b,w29,eq_false c30];refine ai rfl (ei _ (ei _ (ai rfl ?_)));simp only[simprocAttr,R0,h_22,eq_true hlt,hw,w27a,w27b,w29,eq_false c30]
 ·rintro v13_2 o1_2 e h ⟨u23,k24,rfl,h_22⟩ hge t1 ho
  unfold F122_2_D at ho;cases ho;simp only[simprocAttr,R0,b122_2,h_22,eq_false hge];intro ht; subst ht;refine ai rfl (ei _ (ei _ (ai rfl ?_)));simp only[simprocAttr,R0,h_22,eq_false hge]
theorem s122(a0:Int)(a1:Int)(a2:List (List Int)){r:List (List Int)}(hF:F122 a0 a1 a2=some r):ans A 122 [V.int .i64 a0,V.int .i64 a1,V.isl (a2.map Enc.enc)]=some (Enc.enc r):=by
 refine ans_of (f:=p122) rfl rfl rfl fun e hl he=>?_;have h0_0:e.at 0=V.int .i64 a0:=he 0 _ rfl;have h1_0:e.at 1=V.int .i64 a1:=he 1 _ rfl;have h2_0:e.at 2=V.isl (a2.map Enc.enc):=he 2 _ rfl;have hl_0:e.length=68:=hl;clear he hl;show W A b122 e ⟨[],0⟩ _;unfold F122 at hF;obtain⟨⟨zo0_1,zv8_1⟩,gt19,hF⟩:=bS hF;dsimp only at hF;simp only[simprocAttr, -Int.reduceNatCast',R0,b122,hl_0,h0_0,h1_0,h2_0];refine W.mono (l122_1 a0 a1 a2 gt19 (ei _ (ei _ (ai rfl ?_)))) ?_
 ·simp only[simprocAttr, -Int.reduceNatCast',R0,hl_0,h0_0,h1_0,h2_0]
 rintro _ e _ ⟨rfl,u2,k3,rfl,hl_4,h0_4,h7_4,h8_4⟩;obtain⟨x20,gx20,hF⟩:=bS hF;have w21:ans A 131 [V.int .i64 a0,V.isl (zo0_1.map Enc.enc)]=some (V.isl (x20.map Enc.enc)):=s131 a0 zo0_1 gx20;obtain⟨zo1_2,gt37,hF⟩:=bS hF;simp only[simprocAttr, -Int.reduceNatCast',R0,hl_4,h0_4,h7_4,h8_4,takes (α:=List Int) zo0_1,w21];refine W.mono (l122_2 zv8_1 x20 gt37 (ei _ (ei _ (ai rfl ?_)))) ?_
 ·simp only[simprocAttr, -Int.reduceNatCast',R0,hl_4,h0_4,h7_4,h8_4,takes (α:=List Int) zo0_1,w21]
 rintro _ e _ ⟨rfl,u23,k24,rfl,hl_25,h12_25⟩;have hE:=Option.some.inj hF; subst hE;simp only[simprocAttr, -Int.reduceNatCast',R0,hl_25,h12_25];exact fin_ret (by simp only[simprocAttr, -Int.reduceNatCast',R0,fn_out,p122,Rs.ev,take_len_self,hl_25,h12_25,frzs (α:=List Int) zo1_2,takes (α:=List Int) zo1_2])
def F98(a0:GComplex)(a1:Int):Option (List (List Int)):=
 (F99 a0 a1).bind fun x1=>
 (F76 a0 a1).bind fun x3=>
 (F122 a0.Prime x1 x3).bind fun x5=>
 some x5
theorem s98(a0:GComplex)(a1:Int){r:List (List Int)}(hF:F98 a0 a1=some r):ans A 98 [(eC a0),V.int .i64 a1]=some (Enc.enc r):=by
 refine ans_of (f:=p98) rfl rfl rfl fun e hl he=>?_;have h0_0:e.at 0=(eC a0):=he 0 _ rfl;have h1_0:e.at 1=V.int .i64 a1:=he 1 _ rfl;have hl_0:e.length=14:=hl;clear he hl;show W A b98 e ⟨[],0⟩ _;unfold F98 at hF;obtain⟨x1,gx1,hF⟩:=bS hF;have w2:ans A 99 [(eC a0),V.int .i64 a1]=some (V.int .i64 x1):=s99 a0 a1 gx1;obtain⟨x3,gx3,hF⟩:=bS hF;have w4:ans A 76 [(eC a0),V.int .i64 a1]=some (V.isl (x3.map Enc.enc)):=s76 a0 a1 gx3;obtain⟨x5,gx5,hF⟩:=bS hF;have w6:ans A 122 [V.int .i64 a0.Prime,V.int .i64 x1,V.isl (x3.map Enc.enc)]=some (V.isl (x5.map Enc.enc)):=s122 a0.Prime x1 x3 gx5;cases hF;simp only[simprocAttr,R0,b98,hl_0,h0_0,h1_0,w2,w4,w6];exact fin_ret (by simp only[simprocAttr,R0,fn_out,p98,Rs.ev,take_len_self,hl_0,h0_0,h1_0,w2,w4,w6])
def F283(a0:GComplex)(a1:Int):Option Int:=
 (F98 a0 a1).bind fun x1=>
 (F251 a0 a1).bind fun x3=>
 (chk ((x1.length:Int) - (x3.length:Int))).bind fun x5=>
 some x5
theorem s283(a0:GComplex)(a1:Int){r:Int}(hF:F283 a0 a1=some r):ans A 283 [(eC a0),V.int .i64 a1]=some (Enc.enc r):=by
 refine ans_of (f:=p283) rfl rfl rfl fun e hl he=>?_;have h0_0:e.at 0=(eC a0):=he 0 _ rfl;have h1_0:e.at 1=V.int .i64 a1:=he 1 _ rfl;have hl_0:e.length=14:=hl;clear he hl;show W A b283 e ⟨[],0⟩ _;unfold F283 at hF;obtain⟨x1,gx1,hF⟩:=bS hF;have w2:ans A 98 [(eC a0),V.int .i64 a1]=some (V.isl (x1.map Enc.enc)):=s98 a0 a1 gx1;obtain⟨x3,gx3,hF⟩:=bS hF;have w4:ans A 251 [(eC a0),V.int .i64 a1]=some (V.isl (x3.map Enc.enc)):=s251 a0 a1 gx3;obtain⟨x5,gx5,hF⟩:=bS hF;have wx5:=chk_w gx5;cases hF;simp only[simprocAttr,R0,b283,hl_0,h0_0,h1_0,w2,w4,wx5];exact fin_ret (by simp only[simprocAttr,R0,fn_out,p283,Rs.ev,take_len_self,hl_0,h0_0,h1_0,w2,w4,wx5])
def F358_1_B(a0:GComplex)(x1:List (List Int))(x3:List (List Int))(v8_1:Int)(o1_1:(List (List Int))):Option (((List (List Int)))⊕((List (List Int)))):=
 (getI x1 v8_1).bind fun x9=>
(F134 a0.Prime x3 x9).bind fun x11=>
(app 24 o1_1 [x11]).bind fun l14=>
some (.inl l14)
def F358_1_D(a0:GComplex)(x1:List (List Int))(x3:List (List Int))(v8_1:Int)(o1_1:(List (List Int))):Option ((List (List Int))):=
 some o1_1
def F358(a0:GComplex)(a1:Int):Option (List (List Int)):=
 (F98 a0 a1).bind fun x1=>
 (F251 a0 a1).bind fun x3=>
 (forR 0 (x1.length:Int) (F358_1_B a0 x1 x3) (F358_1_D a0 x1 x3) ([]:(List (List Int)))).bind fun zo1_1=>
 (F131 a0.Prime zo1_1).bind fun x16=>
 some x16
def I358_1(a0:GComplex)(x1:List (List Int))(x3:List (List Int))(v8_1:Int)(o1_1:(List (List Int)))(e:Env)(h:Heap):Prop:=
 ∃u6 k7:Nat,h=⟨[(0,none),(u6,some (o1_1.map Enc.enc))],k7⟩∧e.length=37∧e.at 2=V.iptr [V.int .i64 a0.Prime,V.isl (a0.Dims.map Enc.enc),V.isl (a0.Maps.map Enc.enc)]∧e.at 5=V.isl (x1.map Enc.enc)∧e.at 6=V.isl (x3.map Enc.enc)∧e.at 7=V.sl 1 u6 0 o1_1.length 1∧e.at 8=V.int .i64 v8_1
def P358_1(a0:GComplex)(x1:List (List Int))(x3:List (List Int))(zo1_1:(List (List Int)))(x:Ex)(e:Env)(h:Heap):Prop:=
 x= .normal∧∃u6 k7:Nat,h=⟨[(0,none),(u6,some (zo1_1.map Enc.enc))],k7⟩∧e.length=37∧e.at 2=V.iptr [V.int .i64 a0.Prime,V.isl (a0.Dims.map Enc.enc),V.isl (a0.Maps.map Enc.enc)]∧e.at 7=V.sl 1 u6 0 zo1_1.length 1
theorem l358_1(a0:GComplex)(x1:List (List Int))(x3:List (List Int)){lo:Int}{s:(List (List Int))}{t:(List (List Int))}(hF:forR lo (x1.length:Int) (F358_1_B a0 x1 x3) (F358_1_D a0 x1 x3) s=some t){e:Env}{h:Heap}(hI:I358_1 a0 x1 x3 lo s e h):W A c358_1 e h (P358_1 a0 x1 x3 t):=by
 show W A (.block 0 (.loop false b358_1)) e h _;rw[W_block];refine W_forR hF 2 (by obtain⟨_,_,rfl,_⟩:=hI; rfl) (I358_1 a0 x1 x3) hI ?_ ?_
 ·rintro v8_1 o1_1 e h ⟨u6,k7,rfl,h_5⟩ hlt hw o ho
  unfold F358_1_B at ho;obtain⟨x9,gx9,ho⟩:=bS ho;obtain⟨w10a,w10b⟩:=getI_w gx9;obtain⟨x11,gx11,ho⟩:=bS ho;have w12:ans A 134 [V.int .i64 a0.Prime,V.isl (x3.map Enc.enc),V.isl (x9.map Enc.enc)]=some (V.isl (x11.map Enc.enc)):=s134 a0.Prime x3 x9 gx11;obtain⟨l14,gl14,ho⟩:=bS ho;have w13:=fun a b c d e=> appendV_w (α:=List Int) (n:=o1_1.length) (m:=1) (ds:=[V.isl (x11.map Enc.enc)]) gl14 (by first|rfl|simp) (by first|rfl|simp) rfl a b c d e;have w13l:=app_len gl14;cases ho;simp only[simprocAttr,R0,b358_1,h_5,eq_true hlt,hw,w10a,w10b,w12,w13];refine ai rfl (ei _ (ei _ (ai rfl ?_)));simp only[simprocAttr,R0,h_5,eq_true hlt,hw,w10a,w10b,w12,w13]
 ·rintro v8_1 o1_1 e h ⟨u6,k7,rfl,h_5⟩ hge t1 ho
  unfold F358_1_D at ho;cases ho;simp only[simprocAttr,R0,b358_1,h_5,eq_false hge];intro ht; subst ht;refine ai rfl (ei _ (ei _ (ai rfl ?_)));simp only[simprocAttr,R0,h_5,eq_false hge]
theorem s358(a0:GComplex)(a1:Int){r:List (List Int)}(hF:F358 a0 a1=some r):ans A 358 [(eC a0),V.int .i64 a1]=some (Enc.enc r):=by
 refine ans_of (f:=p358) rfl rfl rfl fun e hl he=>?_;have h0_0:e.at 0=(eC a0):=he 0 _ rfl;have h1_0:e.at 1=V.int .i64 a1:=he 1 _ rfl;have hl_0:e.length=37:=hl;clear he hl;show W A b358 e ⟨[],0⟩ _;unfold F358 at hF;obtain⟨x1,gx1,hF⟩:=bS hF;have w2:ans A 98 [(eC a0),V.int .i64 a1]=some (V.isl (x1.map Enc.enc)):=s98 a0 a1 gx1;obtain⟨x3,gx3,hF⟩:=bS hF;have w4:ans A 251 [(eC a0),V.int .i64 a1]=some (V.isl (x3.map Enc.enc)):=s251 a0 a1 gx3;obtain⟨zo1_1,gt15,hF⟩:=bS hF;simp only[simprocAttr,R0,b358,hl_0,h0_0,h1_0,w2,w4];refine W.mono (l358_1 a0 x1 x3 gt15 (ei _ (ei _ (ai rfl ?_)))) ?_
 ·simp only[simprocAttr,R0,hl_0,h0_0,h1_0,w2,w4]
 rintro _ e _ ⟨rfl,u6,k7,rfl,h_8⟩;obtain⟨x16,gx16,hF⟩:=bS hF;have w17:ans A 131 [V.int .i64 a0.Prime,V.isl (zo1_1.map Enc.enc)]=some (V.isl (x16.map Enc.enc)):=s131 a0.Prime zo1_1 gx16;cases hF;simp only[simprocAttr,R0,h_8,takes (α:=List Int) zo1_1,w17];exact fin_ret (by simp only[simprocAttr,R0,fn_out,p358,Rs.ev,take_len_self,h_8,takes (α:=List Int) zo1_1,w17])
def F359_1_B(a0:List (List Int))(a1:List Int)(v6_1:Int)(o0_1:(List Int)):Option (((List Int))⊕((List Int))):=
 (getI a0 v6_1).bind fun x5=>
(F81 x5).bind fun x7=>
(getI a1 x7).bind fun x9=>
(app 8 o0_1 [x9]).bind fun l12=>
some (.inl l12)
def F359_1_D(a0:List (List Int))(a1:List Int)(v6_1:Int)(o0_1:(List Int)):Option ((List Int)):=
 some o0_1
def F359(a0:List (List Int))(a1:List Int):Option (List Int):=
 (forR 0 (a0.length:Int) (F359_1_B a0 a1) (F359_1_D a0 a1) ([]:(List Int))).bind fun zo0_1=>
 some zo0_1
def I359_1(a0:List (List Int))(a1:List Int)(v6_1:Int)(o0_1:(List Int))(e:Env)(h:Heap):Prop:=
 ∃u2 k3:Nat,h=⟨[(u2,some (o0_1.map Enc.enc))],k3⟩∧e.length=26∧e.at 0=V.isl (a0.map Enc.enc)∧e.at 1=V.isl (a1.map Enc.enc)∧e.at 5=V.sl 0 u2 0 o0_1.length 1∧e.at 6=V.int .i64 v6_1
def P359_1(a0:List (List Int))(a1:List Int)(zo0_1:(List Int))(x:Ex)(e:Env)(h:Heap):Prop:=
 x= .normal∧∃u2 k3:Nat,h=⟨[(u2,some (zo0_1.map Enc.enc))],k3⟩∧e.length=26∧e.at 5=V.sl 0 u2 0 zo0_1.length 1
theorem l359_1(a0:List (List Int))(a1:List Int){lo:Int}{s:(List Int)}{t:(List Int)}(hF:forR lo (a0.length:Int) (F359_1_B a0 a1) (F359_1_D a0 a1) s=some t){e:Env}{h:Heap}(hI:I359_1 a0 a1 lo s e h):W A c359_1 e h (P359_1 a0 a1 t):=by
 show W A (.block 0 (.loop false b359_1)) e h _;rw[W_block];refine W_forR hF 1 (by obtain⟨_,_,rfl,_⟩:=hI; rfl) (I359_1 a0 a1) hI ?_ ?_
 ·rintro v6_1 o0_1 e h ⟨u2,k3,rfl,h_1⟩ hlt hw o ho
  unfold F359_1_B at ho;obtain⟨x5,gx5,ho⟩:=bS ho;obtain⟨w6a,w6b⟩:=getI_w gx5;obtain⟨x7,gx7,ho⟩:=bS ho;have w8:ans A 81 [V.isl (x5.map Enc.enc)]=some (V.int .i64 x7):=s81 x5 gx7;obtain⟨x9,gx9,ho⟩:=bS ho;obtain⟨w10a,w10b⟩:=getI_w gx9;obtain⟨l12,gl12,ho⟩:=bS ho;have w11:=fun a b c d e=> appendV_w (α:=Int) (n:=o0_1.length) (m:=1) (ds:=[V.int .i64 x9]) gl12 (by first|rfl|simp) (by first|rfl|simp) rfl a b c d e;have w11l:=app_len gl12;cases ho;simp only[simprocAttr,R0,b359_1,h_1,eq_true hlt,hw,w6a,w6b,w8,w10a,w10b,w11];refine ai rfl (ei _ (ei _ (ai rfl ?_)));simp only[simprocAttr,R0,h_1,eq_true hlt,hw,w6a,w6b,w8,w10a,w10b,w11]
 ·rintro v6_1 o0_1 e h ⟨u2,k3,rfl,h_1⟩ hge t1 ho
  unfold F359_1_D at ho;cases ho;simp only[simprocAttr,R0,b359_1,h_1,eq_false hge];intro ht; subst ht;refine ai rfl (ei _ (ei _ (ai rfl ?_)));simp only[simprocAttr,R0,h_1,eq_false hge]
theorem s359(a0:List (List Int))(a1:List Int){r:List Int}(hF:F359 a0 a1=some r):ans A 359 [V.isl (a0.map Enc.enc),V.isl (a1.map Enc.enc)]=some (Enc.enc r):=by
 refine ans_of (f:=p359) rfl rfl rfl fun e hl he=>?_;have h0_0:e.at 0=V.isl (a0.map Enc.enc):=he 0 _ rfl;have h1_0:e.at 1=V.isl (a1.map Enc.enc):=he 1 _ rfl;have hl_0:e.length=26:=hl;clear he hl;show W A b359 e ⟨[],0⟩ _;unfold F359 at hF;obtain⟨zo0_1,gt13,hF⟩:=bS hF;simp only[simprocAttr, -Int.reduceNatCast',R0,b359,hl_0,h0_0,h1_0];refine W.mono (l359_1 a0 a1 gt13 (ei _ (ei _ (ai rfl ?_)))) ?_
 ·simp only[simprocAttr, -Int.reduceNatCast',R0,hl_0,h0_0,h1_0]
 rintro _ e _ ⟨rfl,u2,k3,rfl,hl_4,h5_4⟩;have hE:=Option.some.inj hF; subst hE;simp only[simprocAttr, -Int.reduceNatCast',R0,hl_4,h5_4];exact fin_ret (by simp only[simprocAttr, -Int.reduceNatCast',R0,fn_out,p359,Rs.ev,take_len_self,hl_4,h5_4,frzs (α:=Int) zo0_1,takes (α:=Int) zo0_1])
def F360_1_B(a0:List Int)(a1:Int)(v8_1:Int)(o0_1:(List Int)):Option (((List Int))⊕((List Int))):=
 (chk (a1+v8_1)).bind fun x7=>
(getI a0 v8_1).bind fun x8=>
(getI o0_1 x7).bind fun x10=>
(setI o0_1 x7 x8).bind fun l12=>
some (.inl l12)
def F360_1_D(a0:List Int)(a1:Int)(v8_1:Int)(o0_1:(List Int)):Option ((List Int)):=
 some o0_1
def F360(a0:List Int)(a1:Int)(a2:Int):Option (List Int):=
 (mkL 8 a2 0).bind fun l1=>
 (forR 0 (a0.length:Int) (F360_1_B a0 a1) (F360_1_D a0 a1) l1).bind fun zo0_1=>
 some zo0_1
def I360_1(a0:List Int)(a1:Int)(v8_1:Int)(o0_1:(List Int))(e:Env)(h:Heap):Prop:=
 ∃u4 k5:Nat,h=⟨[(u4,some (o0_1.map Enc.enc))],k5⟩∧e.length=27∧e.at 0=V.isl (a0.map Enc.enc)∧e.at 1=V.int .i64 a1∧e.at 7=V.sl 0 u4 0 o0_1.length 1∧e.at 8=V.int .i64 v8_1
def P360_1(a0:List Int)(a1:Int)(zo0_1:(List Int))(x:Ex)(e:Env)(h:Heap):Prop:=
 x= .normal∧∃u4 k5:Nat,h=⟨[(u4,some (zo0_1.map Enc.enc))],k5⟩∧e.length=27∧e.at 7=V.sl 0 u4 0 zo0_1.length 1
theorem l360_1(a0:List Int)(a1:Int){lo:Int}{s:(List Int)}{t:(List Int)}(hF:forR lo (a0.length:Int) (F360_1_B a0 a1) (F360_1_D a0 a1) s=some t){e:Env}{h:Heap}(hI:I360_1 a0 a1 lo s e h):W A c360_1 e h (P360_1 a0 a1 t):=by
 show W A (.block 0 (.loop false b360_1)) e h _;rw[W_block];refine W_forR hF 1 (by obtain⟨_,_,rfl,_⟩:=hI; rfl) (I360_1 a0 a1) hI ?_ ?_
 ·rintro v8_1 o0_1 e h ⟨u4,k5,rfl,h_3⟩ hlt hw o ho
  unfold F360_1_B at ho;obtain⟨x7,gx7,ho⟩:=bS ho;have wx7:=chk_w gx7;obtain⟨x8,gx8,ho⟩:=bS ho;obtain⟨w9a,w9b⟩:=getI_w gx8;obtain⟨x10,gx10,ho⟩:=bS ho;obtain⟨w11a,w11b⟩:=getI_w gx10;have w11c:=getI_lt gx10;have w11d:List.drop (Int.toNat x7) (o0_1.map Enc.enc)=(V.int .i64 x10)::List.drop ((Int.toNat x7)+1) (o0_1.map Enc.enc):=drop_enc w11b;obtain⟨l12,gl12,ho⟩:=bS ho;obtain⟨w13a,w13b,w13c,w13d,w13e⟩:=setI_w gl12;replace w13e:List.take (Int.toNat x7) (o0_1.map Enc.enc)++[V.int .i64 x8]++List.drop (Int.toNat x7+1) (o0_1.map Enc.enc)=List.map Enc.enc l12:=w13e;cases ho;simp only[simprocAttr,R0,b360_1,h_3,eq_true hlt,hw,wx7,w9a,w9b,w11a,w11b,w11c,w11d,w13a,w13b,w13c,w13e];refine ai rfl (ei _ (ei _ (ai rfl ?_)));simp only[simprocAttr,R0,h_3,eq_true hlt,hw,wx7,w9a,w9b,w11a,w11b,w11c,w11d,w13a,w13b,w13c,w13e,w13d]
 ·rintro v8_1 o0_1 e h ⟨u4,k5,rfl,h_3⟩ hge t1 ho
  unfold F360_1_D at ho;cases ho;simp only[simprocAttr,R0,b360_1,h_3,eq_false hge];intro ht; subst ht;refine ai rfl (ei _ (ei _ (ai rfl ?_)));simp only[simprocAttr,R0,h_3,eq_false hge]
theorem s360(a0:List Int)(a1:Int)(a2:Int){r:List Int}(hF:F360 a0 a1 a2=some r):ans A 360 [V.isl (a0.map Enc.enc),V.int .i64 a1,V.int .i64 a2]=some (Enc.enc r):=by
 refine ans_of (f:=p360) rfl rfl rfl fun e hl he=>?_;have h0_0:e.at 0=V.isl (a0.map Enc.enc):=he 0 _ rfl;have h1_0:e.at 1=V.int .i64 a1:=he 1 _ rfl;have h2_0:e.at 2=V.int .i64 a2:=he 2 _ rfl;have hl_0:e.length=27:=hl;clear he hl;show W A b360 e ⟨[],0⟩ _;unfold F360 at hF;obtain⟨l1,gl1,hF⟩:=bS hF;obtain⟨w2a,w2b,w2c,w2d,w2e⟩:=mkL_w gl1;replace w2e:(List.replicate (Int.toNat a2) [V.int .i64 0]).flatten=List.map Enc.enc l1:=w2e;obtain⟨zo0_1,gt14,hF⟩:=bS hF;simp only[simprocAttr, -Int.reduceNatCast',R0,b360,hl_0,h0_0,h1_0,h2_0,w2a,w2b,w2c,w2e];refine W.mono (l360_1 a0 a1 gt14 (ei _ (ei _ (ai rfl ?_)))) ?_
 ·simp only[simprocAttr, -Int.reduceNatCast',R0,hl_0,h0_0,h1_0,h2_0,w2a,w2b,w2c,w2e,w2d]
 rintro _ e _ ⟨rfl,u4,k5,rfl,hl_6,h7_6⟩;have hE:=Option.some.inj hF; subst hE;simp only[simprocAttr, -Int.reduceNatCast',R0,hl_6,h7_6];exact fin_ret (by simp only[simprocAttr, -Int.reduceNatCast',R0,fn_out,p360,Rs.ev,take_len_self,hl_6,h7_6,frzs (α:=Int) zo0_1,takes (α:=Int) zo0_1])
end
end Rv
