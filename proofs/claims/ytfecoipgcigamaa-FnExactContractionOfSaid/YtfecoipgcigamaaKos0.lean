/- What the abstract code answers: typed functions, part 1. -/
import Derived.Test.YtfecoipgcigamaaKop
namespace Rv
set_option linter.unusedVariables false
set_option linter.unusedSimpArgs false
set_option maxRecDepth 100000
noncomputable section
abbrev eC(x:GComplex):V:=V.agg [V.int .i64 x.Prime,V.isl (x.Dims.map Enc.enc),V.isl (x.Maps.map Enc.enc)]
abbrev eK(x:GContraction):V:=V.agg [V.isl (x.Down.map Enc.enc),V.isl (x.Up.map Enc.enc),V.isl (x.Back.map Enc.enc)]
theorem R1:type_of%(And.intro RR (And.intro RB (And.intro RZ (And.intro @ii_eq <|And.intro @nn_eq <|And.intro @oM_e <|And.intro @oL_e <|And.intro @oS_e <|And.intro @oF_e <|And.intro @oB_e <|And.intro @oC_e <|And.intro @oI_e <|And.intro @oN_e <|And.intro @oP_e <|And.intro @oQ_e <|And.intro @oR_e <|And.intro @oU_e <|And.intro @opEv.eq_1 <|And.intro @opEv.eq_2 <|And.intro @opEv.eq_3 <|And.intro @opEv.eq_4 <|And.intro @opEv.eq_5 <|And.intro @opEv.eq_6 <|And.intro @opEv.eq_7 <|And.intro @opEv.eq_8 <|And.intro @opEv.eq_9 <|And.intro @opEv.eq_10 <|And.intro @opEv.eq_11 <|And.intro @opEv.eq_12 <|And.intro @opEv.eq_13 <|And.intro @opEv.eq_14 <|And.intro @opEv.eq_15 <|And.intro @opEv.eq_16 <|And.intro @opEv.eq_17 <|And.intro @opEv.eq_18 <|And.intro @opEv.eq_19 <|And.intro @opEv.eq_20 <|And.intro @opEv.eq_21 <|And.intro @opEv.eq_22 <|And.intro @opEv.eq_23 <|And.intro @opEv.eq_24 <|And.intro @opEv.eq_25 <|And.intro @opEv.eq_26 <|And.intro @opEv.eq_27 <|And.intro @opEv.eq_28 <|And.intro @opEv.eq_29 <|And.intro @opEv.eq_30 <|And.intro @opEv.eq_31 <|And.intro @opEv.eq_32 <|And.intro @opEv.eq_33 <|And.intro @opEv.eq_34 <|And.intro @opEv.eq_35 <|And.intro @opEv.eq_36 <|And.intro @opEv.eq_37 <|And.intro @fillV.eq_1 <|And.intro @fillV.eq_2 <|And.intro @mapO.eq_1 <|And.intro @mapO.eq_2 <|And.intro @mapS.eq_1 <| @mapS.eq_2)))):=And.intro RR (And.intro RB (And.intro RZ (And.intro @ii_eq <|And.intro @nn_eq <|And.intro @oM_e <|And.intro @oL_e <|And.intro @oS_e <|And.intro @oF_e <|And.intro @oB_e <|And.intro @oC_e <|And.intro @oI_e <|And.intro @oN_e <|And.intro @oP_e <|And.intro @oQ_e <|And.intro @oR_e <|And.intro @oU_e <|And.intro @opEv.eq_1 <|And.intro @opEv.eq_2 <|And.intro @opEv.eq_3 <|And.intro @opEv.eq_4 <|And.intro @opEv.eq_5 <|And.intro @opEv.eq_6 <|And.intro @opEv.eq_7 <|And.intro @opEv.eq_8 <|And.intro @opEv.eq_9 <|And.intro @opEv.eq_10 <|And.intro @opEv.eq_11 <|And.intro @opEv.eq_12 <|And.intro @opEv.eq_13 <|And.intro @opEv.eq_14 <|And.intro @opEv.eq_15 <|And.intro @opEv.eq_16 <|And.intro @opEv.eq_17 <|And.intro @opEv.eq_18 <|And.intro @opEv.eq_19 <|And.intro @opEv.eq_20 <|And.intro @opEv.eq_21 <|And.intro @opEv.eq_22 <|And.intro @opEv.eq_23 <|And.intro @opEv.eq_24 <|And.intro @opEv.eq_25 <|And.intro @opEv.eq_26 <|And.intro @opEv.eq_27 <|And.intro @opEv.eq_28 <|And.intro @opEv.eq_29 <|And.intro @opEv.eq_30 <|And.intro @opEv.eq_31 <|And.intro @opEv.eq_32 <|And.intro @opEv.eq_33 <|And.intro @opEv.eq_34 <|And.intro @opEv.eq_35 <|And.intro @opEv.eq_36 <|And.intro @opEv.eq_37 <|And.intro @fillV.eq_1 <|And.intro @fillV.eq_2 <|And.intro @mapO.eq_1 <|And.intro @mapO.eq_2 <|And.intro @mapS.eq_1 <| @mapS.eq_2)))
theorem R0:type_of%(And.intro R1 RE):=And.intro R1 RE
def F43(a0:List Int)(a1:Int):Option Int:=
 (chk (a1 - (a0.length:Int))).bind fun x1=>
 if x1 < 0 then
  some (-1)
 else
  some x1
theorem s43(a0:List Int)(a1:Int){r:Int}(hF:F43 a0 a1=some r):ans A 43 [V.isl (a0.map Enc.enc),V.int .i64 a1]=some (Enc.enc r):=by
 refine ans_of (f:=p43) rfl rfl rfl fun e hl he=>?_;have h0_0:e.at 0=V.isl (a0.map Enc.enc):=he 0 _ rfl;have h1_0:e.at 1=V.int .i64 a1:=he 1 _ rfl;have hl_0:e.length=12:=hl;clear he hl;have h_0:=And.intro hl_0 (And.intro h0_0 h1_0);show W A b43 e ⟨[],0⟩ _;unfold F43 at hF;obtain⟨x1,gx1,hF⟩:=bS hF;have wx1:=chk_w gx1;by_cases c2:x1 < 0
 ·rw[if_pos c2]at hF
  cases hF;simp only[simprocAttr,R0,b43,h_0,wx1,eq_true c2];exact fin_ret (by simp only[simprocAttr,R0,fn_out,p43,Rs.ev,take_len_self,h_0,wx1,eq_true c2])
 ·rw[if_neg c2]at hF
  cases hF;simp only[simprocAttr,R0,b43,h_0,wx1,eq_false c2];exact fin_ret (by simp only[simprocAttr,R0,fn_out,p43,Rs.ev,take_len_self,h_0,wx1,eq_false c2])
def F44_1_B(a0:List (List Int))(v5_1:Int)(v1_1:Int):Option ((Int)⊕((Int)⊕Int)):=
 (getI a0 v5_1).bind fun x6=>
(F43 x6 v1_1).bind fun x8=>
if x8 < 0 then
 some (.inr (.inr (-1)))
else
 some (.inl x8)
def F44_1_D(a0:List (List Int))(v5_1:Int)(v1_1:Int):Option ((Int)⊕Int):=
 some (.inl v1_1)
def F44(a0:List (List Int))(a1:Int):Option Int:=
 (chk (a1 - (a0.length:Int))).bind fun x1=>
 if x1 < 0 then
  some (-1)
 else
  (forR 0 (a0.length:Int) (F44_1_B a0) (F44_1_D a0) x1).bind fun t11=> match t11 with
   | .inl zv1_1=>
    some zv1_1
   | .inr r12=> some r12
def I44_1(a0:List (List Int))(v5_1:Int)(v1_1:Int)(e:Env)(h:Heap):Prop:=
 ∃k4:Nat,h=⟨[],k4⟩∧e.length=27∧e.at 0=V.isl (a0.map Enc.enc)∧e.at 1=V.int .i64 v1_1∧e.at 5=V.int .i64 v5_1
def P44_1(a0:List (List Int))(t:(Int)⊕Int)(x:Ex)(e:Env)(h:Heap):Prop:=
 match t with
 | .inl zv1_1=> x= .normal∧∃k4:Nat,h=⟨[],k4⟩∧e.length=27∧e.at 1=V.int .i64 zv1_1
 | .inr r=> x= .ret∧Fin p44 (Enc.enc r) .ret e h
theorem l44_1(a0:List (List Int)){lo:Int}{s:Int}{t:(Int)⊕Int}(hF:forR lo (a0.length:Int) (F44_1_B a0) (F44_1_D a0) s=some t){e:Env}{h:Heap}(hI:I44_1 a0 lo s e h):W A c44_1 e h (P44_1 a0 t):=by
 show W A (.block 0 (.loop false b44_1)) e h _;rw[W_block];refine W_forR hF 0 (by obtain⟨_,rfl,_⟩:=hI; rfl) (I44_1 a0) hI ?_ ?_
 ·rintro v5_1 v1_1 e h ⟨k4,rfl,h_3⟩ hlt hw o ho
  unfold F44_1_B at ho;obtain⟨x6,gx6,ho⟩:=bS ho;obtain⟨w7a,w7b⟩:=getI_w gx6;obtain⟨x8,gx8,ho⟩:=bS ho;have w9:ans A 43 [V.isl (x6.map Enc.enc),V.int .i64 v1_1]=some (V.int .i64 x8):=s43 x6 v1_1 gx8;by_cases c10:x8 < 0
  ·rw[if_pos c10]at ho
   cases ho;simp only[simprocAttr,R0,b44_1,h_3,eq_true hlt,hw,w7a,w7b,w9,eq_true c10];intro ht; subst ht;simp only[simprocAttr,RR,RB];exact And.intro rfl (fin_ret (by simp only[simprocAttr,R0,fn_out,p44,Rs.ev,take_len_self,h_3,eq_true hlt,hw,w7a,w7b,w9,eq_true c10]))
  ·rw[if_neg c10]at ho
   cases ho;simp only[simprocAttr,R0,b44_1,h_3,eq_true hlt,hw,w7a,w7b,w9,eq_false c10];refine And.intro rfl (Exists.intro _ (And.intro rfl ?_));simp only[simprocAttr,R0,h_3,eq_true hlt,hw,w7a,w7b,w9,eq_false c10]
 ·rintro v5_1 v1_1 e h ⟨k4,rfl,h_3⟩ hge t1 ho
  unfold F44_1_D at ho;cases ho;simp only[simprocAttr,R0,b44_1,h_3,eq_false hge];intro ht; subst ht;refine And.intro rfl (Exists.intro _ (And.intro rfl ?_));simp only[simprocAttr,R0,h_3,eq_false hge]
theorem s44(a0:List (List Int))(a1:Int){r:Int}(hF:F44 a0 a1=some r):ans A 44 [V.isl (a0.map Enc.enc),V.int .i64 a1]=some (Enc.enc r):=by
 refine ans_of (f:=p44) rfl rfl rfl fun e hl he=>?_;have h0_0:e.at 0=V.isl (a0.map Enc.enc):=he 0 _ rfl;have h1_0:e.at 1=V.int .i64 a1:=he 1 _ rfl;have hl_0:e.length=27:=hl;clear he hl;have h_0:=And.intro hl_0 (And.intro h0_0 h1_0);show W A b44 e ⟨[],0⟩ _;unfold F44 at hF;obtain⟨x1,gx1,hF⟩:=bS hF;have wx1:=chk_w gx1;by_cases c2:x1 < 0
 ·rw[if_pos c2]at hF
  cases hF;simp only[simprocAttr,R0,b44,h_0,wx1,eq_true c2];exact fin_ret (by simp only[simprocAttr,R0,fn_out,p44,Rs.ev,take_len_self,h_0,wx1,eq_true c2])
 ·rw[if_neg c2]at hF
  obtain⟨t11,gt11,hF⟩:=bS hF;rcases t11 with zv1_1|r12
  ·dsimp only at hF
   simp only[simprocAttr,R0,b44,h_0,wx1,eq_false c2];refine W.mono (l44_1 a0 gt11 (Exists.intro _ (And.intro rfl ?_))) ?_
   ·simp only[simprocAttr,R0,h_0,wx1,eq_false c2]
   rintro _ e _ ⟨rfl,k4,rfl,h_5⟩;cases hF;simp only[simprocAttr,R0,h_5,eq_false c2];exact fin_ret (by simp only[simprocAttr,R0,fn_out,p44,Rs.ev,take_len_self,h_5,eq_false c2])
  ·dsimp only at hF
   cases hF;simp only[simprocAttr,R0,b44,h_0,wx1,eq_false c2];refine W.mono (l44_1 a0 gt11 (Exists.intro _ (And.intro rfl ?_))) ?_
   ·simp only[simprocAttr,R0,h_0,wx1,eq_false c2]
   rintro _ e h ⟨rfl,hq⟩;simp only[simprocAttr,RR,RB];exact hq
def F11_1_B(a0:List (List (List Int)))(v5_1:Int)(v1_1:Int):Option ((Int)⊕((Int)⊕Int)):=
 (getI a0 v5_1).bind fun x6=>
(F44 x6 v1_1).bind fun x8=>
if x8 < 0 then
 some (.inr (.inr (-1)))
else
 some (.inl x8)
def F11_1_D(a0:List (List (List Int)))(v5_1:Int)(v1_1:Int):Option ((Int)⊕Int):=
 some (.inl v1_1)
def F11(a0:List (List (List Int)))(a1:Int):Option Int:=
 (chk (a1 - (a0.length:Int))).bind fun x1=>
 if x1 < 0 then
  some (-1)
 else
  (forR 0 (a0.length:Int) (F11_1_B a0) (F11_1_D a0) x1).bind fun t11=> match t11 with
   | .inl zv1_1=>
    some zv1_1
   | .inr r12=> some r12
def I11_1(a0:List (List (List Int)))(v5_1:Int)(v1_1:Int)(e:Env)(h:Heap):Prop:=
 ∃k4:Nat,h=⟨[],k4⟩∧e.length=27∧e.at 0=V.isl (a0.map Enc.enc)∧e.at 1=V.int .i64 v1_1∧e.at 5=V.int .i64 v5_1
def P11_1(a0:List (List (List Int)))(t:(Int)⊕Int)(x:Ex)(e:Env)(h:Heap):Prop:=
 match t with
 | .inl zv1_1=> x= .normal∧∃k4:Nat,h=⟨[],k4⟩∧e.length=27∧e.at 1=V.int .i64 zv1_1
 | .inr r=> x= .ret∧Fin p11 (Enc.enc r) .ret e h
theorem l11_1(a0:List (List (List Int))){lo:Int}{s:Int}{t:(Int)⊕Int}(hF:forR lo (a0.length:Int) (F11_1_B a0) (F11_1_D a0) s=some t){e:Env}{h:Heap}(hI:I11_1 a0 lo s e h):W A c11_1 e h (P11_1 a0 t):=by
 show W A (.block 0 (.loop false b11_1)) e h _;rw[W_block];refine W_forR hF 0 (by obtain⟨_,rfl,_⟩:=hI; rfl) (I11_1 a0) hI ?_ ?_
 ·rintro v5_1 v1_1 e h ⟨k4,rfl,h_3⟩ hlt hw o ho
  unfold F11_1_B at ho;obtain⟨x6,gx6,ho⟩:=bS ho;obtain⟨w7a,w7b⟩:=getI_w gx6;obtain⟨x8,gx8,ho⟩:=bS ho;have w9:ans A 44 [V.isl (x6.map Enc.enc),V.int .i64 v1_1]=some (V.int .i64 x8):=s44 x6 v1_1 gx8;by_cases c10:x8 < 0
  ·rw[if_pos c10]at ho
   cases ho;simp only[simprocAttr,R0,b11_1,h_3,eq_true hlt,hw,w7a,w7b,w9,eq_true c10];intro ht; subst ht;simp only[simprocAttr,RR,RB];exact And.intro rfl (fin_ret (by simp only[simprocAttr,R0,fn_out,p11,Rs.ev,take_len_self,h_3,eq_true hlt,hw,w7a,w7b,w9,eq_true c10]))
  ·rw[if_neg c10]at ho
   cases ho;simp only[simprocAttr,R0,b11_1,h_3,eq_true hlt,hw,w7a,w7b,w9,eq_false c10];refine And.intro rfl (Exists.intro _ (And.intro rfl ?_));simp only[simprocAttr,R0,h_3,eq_true hlt,hw,w7a,w7b,w9,eq_false c10]
 ·rintro v5_1 v1_1 e h ⟨k4,rfl,h_3⟩ hge t1 ho
  unfold F11_1_D at ho;cases ho;simp only[simprocAttr,R0,b11_1,h_3,eq_false hge];intro ht; subst ht;refine And.intro rfl (Exists.intro _ (And.intro rfl ?_));simp only[simprocAttr,R0,h_3,eq_false hge]
theorem s11(a0:List (List (List Int)))(a1:Int){r:Int}(hF:F11 a0 a1=some r):ans A 11 [V.isl (a0.map Enc.enc),V.int .i64 a1]=some (Enc.enc r):=by
 refine ans_of (f:=p11) rfl rfl rfl fun e hl he=>?_;have h0_0:e.at 0=V.isl (a0.map Enc.enc):=he 0 _ rfl;have h1_0:e.at 1=V.int .i64 a1:=he 1 _ rfl;have hl_0:e.length=27:=hl;clear he hl;have h_0:=And.intro hl_0 (And.intro h0_0 h1_0);show W A b11 e ⟨[],0⟩ _;unfold F11 at hF;obtain⟨x1,gx1,hF⟩:=bS hF;have wx1:=chk_w gx1;by_cases c2:x1 < 0
 ·rw[if_pos c2]at hF
  cases hF;simp only[simprocAttr,R0,b11,h_0,wx1,eq_true c2];exact fin_ret (by simp only[simprocAttr,R0,fn_out,p11,Rs.ev,take_len_self,h_0,wx1,eq_true c2])
 ·rw[if_neg c2]at hF
  obtain⟨t11,gt11,hF⟩:=bS hF;rcases t11 with zv1_1|r12
  ·dsimp only at hF
   simp only[simprocAttr,R0,b11,h_0,wx1,eq_false c2];refine W.mono (l11_1 a0 gt11 (Exists.intro _ (And.intro rfl ?_))) ?_
   ·simp only[simprocAttr,R0,h_0,wx1,eq_false c2]
   rintro _ e _ ⟨rfl,k4,rfl,h_5⟩;cases hF;simp only[simprocAttr,R0,h_5,eq_false c2];exact fin_ret (by simp only[simprocAttr,R0,fn_out,p11,Rs.ev,take_len_self,h_5,eq_false c2])
  ·dsimp only at hF
   cases hF;simp only[simprocAttr,R0,b11,h_0,wx1,eq_false c2];refine W.mono (l11_1 a0 gt11 (Exists.intro _ (And.intro rfl ?_))) ?_
   ·simp only[simprocAttr,R0,h_0,wx1,eq_false c2]
   rintro _ e h ⟨rfl,hq⟩;simp only[simprocAttr,RR,RB];exact hq
def F10(a0:GComplex)(a1:Int):Option Int:=
 (F43 a0.Dims a1).bind fun x1=>
 if x1 < 0 then
  some (-1)
 else
  (F11 a0.Maps x1).bind fun x4=>
  if x4 < 0 then
   some (-1)
  else
   some x4
theorem s10(a0:GComplex)(a1:Int){r:Int}(hF:F10 a0 a1=some r):ans A 10 [(eC a0),V.int .i64 a1]=some (Enc.enc r):=by
 refine ans_of (f:=p10) rfl rfl rfl fun e hl he=>?_;have h0_0:e.at 0=(eC a0):=he 0 _ rfl;have h1_0:e.at 1=V.int .i64 a1:=he 1 _ rfl;have hl_0:e.length=18:=hl;clear he hl;have h_0:=And.intro hl_0 (And.intro h0_0 h1_0);show W A b10 e ⟨[],0⟩ _;unfold F10 at hF;obtain⟨x1,gx1,hF⟩:=bS hF;have w2:ans A 43 [V.isl (a0.Dims.map Enc.enc),V.int .i64 a1]=some (V.int .i64 x1):=s43 a0.Dims a1 gx1;by_cases c3:x1 < 0
 ·rw[if_pos c3]at hF
  cases hF;simp only[simprocAttr,R0,b10,h_0,w2,eq_true c3];exact fin_ret (by simp only[simprocAttr,R0,fn_out,p10,Rs.ev,take_len_self,h_0,w2,eq_true c3])
 ·rw[if_neg c3]at hF
  obtain⟨x4,gx4,hF⟩:=bS hF;have w5:ans A 11 [V.isl (a0.Maps.map Enc.enc),V.int .i64 x1]=some (V.int .i64 x4):=s11 a0.Maps x1 gx4;by_cases c6:x4 < 0
  ·rw[if_pos c6]at hF
   cases hF;simp only[simprocAttr,R0,b10,h_0,w2,eq_false c3,w5,eq_true c6];exact fin_ret (by simp only[simprocAttr,R0,fn_out,p10,Rs.ev,take_len_self,h_0,w2,eq_false c3,w5,eq_true c6])
  ·rw[if_neg c6]at hF
   cases hF;simp only[simprocAttr,R0,b10,h_0,w2,eq_false c3,w5,eq_false c6];exact fin_ret (by simp only[simprocAttr,R0,fn_out,p10,Rs.ev,take_len_self,h_0,w2,eq_false c3,w5,eq_false c6])
def F47_1_B(a0:List Int)(v4_1:Int)(o0_1:(List Int)):Option (((List Int))⊕((List Int))):=
 (getI a0 v4_1).bind fun x7=>
(getI o0_1 v4_1).bind fun x9=>
(setI o0_1 v4_1 x7).bind fun l11=>
some (.inl l11)
def F47_1_D(a0:List Int)(v4_1:Int)(o0_1:(List Int)):Option ((List Int)):=
 some o0_1
def F47(a0:List Int):Option (List Int):=
 (mkL 8 (a0.length:Int) 0).bind fun l1=>
 (forR 0 (a0.length:Int) (F47_1_B a0) (F47_1_D a0) l1).bind fun zo0_1=>
 some zo0_1
def I47_1(a0:List Int)(v4_1:Int)(o0_1:(List Int))(e:Env)(h:Heap):Prop:=
 ∃u4 k5:Nat,h=⟨[(u4,some (o0_1.map Enc.enc))],k5⟩∧e.length=22∧e.at 0=V.isl (a0.map Enc.enc)∧e.at 3=V.sl 0 u4 0 o0_1.length 1∧e.at 4=V.int .i64 v4_1
def P47_1(a0:List Int)(zo0_1:(List Int))(x:Ex)(e:Env)(h:Heap):Prop:=
 x= .normal∧∃u4 k5:Nat,h=⟨[(u4,some (zo0_1.map Enc.enc))],k5⟩∧e.length=22∧e.at 3=V.sl 0 u4 0 zo0_1.length 1
theorem l47_1(a0:List Int){lo:Int}{s:(List Int)}{t:(List Int)}(hF:forR lo (a0.length:Int) (F47_1_B a0) (F47_1_D a0) s=some t){e:Env}{h:Heap}(hI:I47_1 a0 lo s e h):W A c47_1 e h (P47_1 a0 t):=by
 show W A (.block 0 (.loop false b47_1)) e h _;rw[W_block];refine W_forR hF 1 (by obtain⟨_,_,rfl,_⟩:=hI; rfl) (I47_1 a0) hI ?_ ?_
 ·rintro v4_1 o0_1 e h ⟨u4,k5,rfl,h_3⟩ hlt hw o ho
  unfold F47_1_B at ho;obtain⟨x7,gx7,ho⟩:=bS ho;obtain⟨w8a,w8b⟩:=getI_w gx7;obtain⟨x9,gx9,ho⟩:=bS ho;obtain⟨w10a,w10b⟩:=getI_w gx9;have w10c:=getI_lt gx9;have w10d:List.drop (Int.toNat v4_1) (o0_1.map Enc.enc)=(V.int .i64 x9)::List.drop ((Int.toNat v4_1)+1) (o0_1.map Enc.enc):=drop_enc w10b;obtain⟨l11,gl11,ho⟩:=bS ho;obtain⟨w12a,w12b,w12c,w12d,w12e⟩:=setI_w gl11;replace w12e:List.take (Int.toNat v4_1) (o0_1.map Enc.enc)++[V.int .i64 x7]++List.drop (Int.toNat v4_1+1) (o0_1.map Enc.enc)=List.map Enc.enc l11:=w12e;cases ho;simp only[simprocAttr,R0,b47_1,h_3,eq_true hlt,hw,w8a,w8b,w10a,w10b,w10c,w10d,w12a,w12b,w12c,w12e];refine And.intro rfl (Exists.intro _ (Exists.intro _ (And.intro rfl ?_)));simp only[simprocAttr,R0,h_3,eq_true hlt,hw,w8a,w8b,w10a,w10b,w10c,w10d,w12a,w12b,w12c,w12e,w12d]
 ·rintro v4_1 o0_1 e h ⟨u4,k5,rfl,h_3⟩ hge t1 ho
  unfold F47_1_D at ho;cases ho;simp only[simprocAttr,R0,b47_1,h_3,eq_false hge];intro ht; subst ht;refine And.intro rfl (Exists.intro _ (Exists.intro _ (And.intro rfl ?_)));simp only[simprocAttr,R0,h_3,eq_false hge]
theorem t47(a0:List Int){r:List Int}(hF:F47 a0=some r):tans A 47 [1] [V.isl (a0.map Enc.enc)]=some (Enc.enc r):=by
 refine tans_of (f:=p47) rfl rfl rfl fun e hl he=>?_;have h0_0:e.at 0=V.isl (a0.map Enc.enc):=he 0 _ rfl;have hl_0:e.length=22:=hl;clear he hl;show W A b47 e ⟨[],0⟩ _;unfold F47 at hF;obtain⟨l1,gl1,hF⟩:=bS hF;obtain⟨w2a,w2b,w2c,w2d,w2e⟩:=mkL_w gl1;replace w2e:(List.replicate (Int.toNat (a0.length:Int)) [V.int .i64 0]).flatten=List.map Enc.enc l1:=w2e;obtain⟨zo0_1,gt13,hF⟩:=bS hF;simp only[simprocAttr, -Int.reduceNatCast',R0,b47,hl_0,h0_0,w2a,w2b,w2c,w2e];refine W.mono (l47_1 a0 gt13 (Exists.intro _ (Exists.intro _ (And.intro rfl ?_)))) ?_
 ·simp only[simprocAttr, -Int.reduceNatCast',R0,hl_0,h0_0,w2a,w2b,w2c,w2e,w2d]
 rintro _ e _ ⟨rfl,u4,k5,rfl,hl_6,h3_6⟩;have hE:=Option.some.inj hF; subst hE;simp only[simprocAttr, -Int.reduceNatCast',R0,hl_6,h3_6];exact tfin_ret (by simp only[simprocAttr, -Int.reduceNatCast',R0,fn_out,p47,Rs.ev,take_len_self,hl_6,h3_6,frzs (α:=Int) zo0_1,takes (α:=Int) zo0_1])
def F48_1_B(a0:List (List Int))(v4_1:Int)(o0_1:(List (List Int))):Option (((List (List Int)))⊕((List (List Int)))):=
 (getI a0 v4_1).bind fun x7=>
(F47 x7).bind fun x9=>
(getI o0_1 v4_1).bind fun x11=>
(setI o0_1 v4_1 x9).bind fun l13=>
some (.inl l13)
def F48_1_D(a0:List (List Int))(v4_1:Int)(o0_1:(List (List Int))):Option ((List (List Int))):=
 some o0_1
def F48(a0:List (List Int)):Option (List (List Int)):=
 (mkL 24 (a0.length:Int) ([]:List Int)).bind fun l1=>
 (forR 0 (a0.length:Int) (F48_1_B a0) (F48_1_D a0) l1).bind fun zo0_1=>
 some zo0_1
theorem d48(a0:List (List Int)){r:List (List Int)}(hF:F48 a0=some r):∃v h',res A 48 [V.isl (a0.map Enc.enc)] Heap.empty=some (v,h')∧∃K,Deep.rep h' v r K:=by
 refine res_dp (f:=p48) rfl rfl rfl fun e hl he=>?_;have h0_0:e.at 0=V.isl (a0.map Enc.enc):=he 0 _ rfl;have hl_0:e.length=23:=hl;clear he hl;show W A b48 e ⟨[],0⟩ _;unfold F48 at hF;obtain⟨l1,gl1,hF⟩:=bS hF;obtain⟨zo,gt,hF⟩:=bS hF;have hE:=Option.some.inj hF; subst hE;obtain⟨w1a,w1b,w1c,w1d⟩:=mkL_deep gl1;simp only[Int.toNat_natCast]at w1d;have w1e:(List.replicate (Int.toNat (a0.length:Int)) [V.nils]).flatten=List.replicate a0.length V.nils:=by rw[Int.toNat_natCast,List.flatten_replicate_singleton]
 subst w1d;simp only[simprocAttr, -Int.reduceNatCast',R1,b48,hl_0,h0_0,w1a,w1b,w1c,w1e,Int.toNat_natCast];show W A (.block 0 (.loop true b48_1)) _ _ _;rw[W_block];refine W_forR gt _ rfl (fun i l e h=>∃vs K,h.ents[0]? =some (0,some vs)∧reps h vs l K∧¬K 0∧l.length=a0.length∧e.length=23∧e.at 0=V.isl (a0.map Enc.enc)∧e.at 3=V.sl 0 0 0 a0.length 1∧e.at 4=V.int .i64 i) ?_ ?_ ?_
 ·refine⟨_,fun _=> False,rfl,by rw[List.flatten_replicate_singleton]; exact reps_nils _ _,fun x=> x,by simp,?_⟩
  simp only[simprocAttr, -Int.reduceNatCast',R1,hl_0,h0_0]
 ·rintro i l e ⟨E,c⟩ ⟨vs,K,g1,g2,g3,g4,hl_1,h0_1,h3_1,h4_1⟩ hlt hw o ho
  unfold F48_1_B at ho;obtain⟨x7,gx7,ho⟩:=bS ho;obtain⟨w6a,w6b⟩:=getI_w gx7;obtain⟨x9,gx9,ho⟩:=bS ho;have w8:=t47 x7 gx9;obtain⟨x11,gx11,ho⟩:=bS ho;obtain⟨l13,gl13,ho⟩:=bS ho;have sm:l13=l.set i.toNat x9:=setI_eq gl13;have hE:=Option.some.inj ho; subst hE;have hil:i.toNat < l.length:=by omega
  have hln:=g2.len;have hE0:0 < E.length:=(List.getElem?_eq_some_iff.1 g1).1;obtain⟨x,K1,K2,f1,f2,f3,f4,f5⟩:=g2.focus hil;have p0:∀y,(E++[y])[0]? =some (0,some vs):=fun y=>(List.getElem?_append_left hE0).trans g1;have hs:List.take i.toNat vs++[V.sl E.length c 0 x9.length 1]++List.drop (i.toNat+1) vs=vs.set i.toNat (V.sl E.length c 0 x9.length 1):=by
   rw[List.set_eq_take_append_cons_drop,if_pos (by omega)]; simp
  have hle:i.toNat+1≤vs.length:=by omega
  simp only[simprocAttr, -Int.reduceNatCast',R1,b48_1,hl_1,h0_1,h3_1,h4_1,eq_true hlt,hw,w6a,w6b,w8,callM_tans,thaw_one,p0,hs,hle];have r1:=f5 ⟨(E++[(c,some (x9.map Enc.enc))]).set 0 (0,some (vs.set i.toNat (V.sl E.length c 0 x9.length 1))),c+1⟩ (V.sl E.length c 0 x9.length 1) x9 (fun k=> k=E.length) (fun k=> k=E.length∨K2 k)
   (int_row ((set_ne (by omega)).trans (get_last _ _)) fun k=> Iff.rfl)
   (fun k q=> set_app_new (fun e=> g3 (e▸(f4 k).2 (.inr q))) (g2.bd ((f4 k).2 (.inr q))))
   (fun k q q2=> by have:=g2.bd ((f4 k).2 (.inr q2)); simp only at this; omega) (fun k=> Iff.rfl)
  refine And.intro rfl ⟨_,fun k=> k=E.length∨K2 k,set_app_key (by simp),by rw[sm]; exact r1,fun q=> q.elim (fun q=> by omega) (fun q=> g3 ((f4 0).2 (.inr q))),by rw[sm,List.length_set]; exact g4,?_⟩;simp only[simprocAttr, -Int.reduceNatCast',R1,hl_1,h0_1,h3_1,h4_1,hw]
 ·rintro i l e ⟨E,c⟩ ⟨vs,K,g1,g2,g3,g4,hl_1,h0_1,h3_1,h4_1⟩ hge t1 ho
  unfold F48_1_D at ho;have hE:=Option.some.inj ho; subst hE;simp only[simprocAttr, -Int.reduceNatCast',R1,b48_1,hl_1,h0_1,h3_1,h4_1,eq_false hge];intro ht; subst ht;refine And.intro (fun _=> trivial) ⟨_,by simp only[simprocAttr, -Int.reduceNatCast',R1,fn_out,p48,Rs.ev,hl_1]; rfl,fun k=> k=0∨K k,.inr ⟨0,0,vs,K,by rw[g4],g1,g2,g3,fun k=> Iff.rfl⟩⟩
theorem x48(a0:List (List Int)){r:List (List Int)}(hF:F48 a0=some r):tans A 48 [1,1] [V.isl (a0.map Enc.enc)]=some (Enc.enc r):=tans_of_deep (α:=List (List Int)) (by decide) (d48 a0 hF)
def F13_1_B(a0:List (List (List Int)))(v4_1:Int)(o0_1:(List (List (List Int)))):Option (((List (List (List Int))))⊕((List (List (List Int))))):=
 (getI a0 v4_1).bind fun x7=>
(F48 x7).bind fun x9=>
(getI o0_1 v4_1).bind fun x11=>
(setI o0_1 v4_1 x9).bind fun l13=>
some (.inl l13)
def F13_1_D(a0:List (List (List Int)))(v4_1:Int)(o0_1:(List (List (List Int)))):Option ((List (List (List Int)))):=
 some o0_1
def F13(a0:List (List (List Int))):Option (List (List (List Int))):=
 (mkL 24 (a0.length:Int) ([]:List (List Int))).bind fun l1=>
 (forR 0 (a0.length:Int) (F13_1_B a0) (F13_1_D a0) l1).bind fun zo0_1=>
 some zo0_1
theorem d13(a0:List (List (List Int))){r:List (List (List Int))}(hF:F13 a0=some r):∃v h',res A 13 [V.isl (a0.map Enc.enc)] Heap.empty=some (v,h')∧∃K,Deep.rep h' v r K:=by
 refine res_dp (f:=p13) rfl rfl rfl fun e hl he=>?_;have h0_0:e.at 0=V.isl (a0.map Enc.enc):=he 0 _ rfl;have hl_0:e.length=23:=hl;clear he hl;show W A b13 e ⟨[],0⟩ _;unfold F13 at hF;obtain⟨l1,gl1,hF⟩:=bS hF;obtain⟨zo,gt,hF⟩:=bS hF;have hE:=Option.some.inj hF; subst hE;obtain⟨w1a,w1b,w1c,w1d⟩:=mkL_deep gl1;simp only[Int.toNat_natCast]at w1d;have w1e:(List.replicate (Int.toNat (a0.length:Int)) [V.nils]).flatten=List.replicate a0.length V.nils:=by rw[Int.toNat_natCast,List.flatten_replicate_singleton]
 subst w1d;simp only[simprocAttr, -Int.reduceNatCast',R1,b13,hl_0,h0_0,w1a,w1b,w1c,w1e,Int.toNat_natCast];show W A (.block 0 (.loop true b13_1)) _ _ _;rw[W_block];refine W_forR gt _ rfl (fun i l e h=>∃vs K,h.ents[0]? =some (0,some vs)∧reps h vs l K∧¬K 0∧l.length=a0.length∧e.length=23∧e.at 0=V.isl (a0.map Enc.enc)∧e.at 3=V.sl 0 0 0 a0.length 1∧e.at 4=V.int .i64 i) ?_ ?_ ?_
 ·refine⟨_,fun _=> False,rfl,by rw[List.flatten_replicate_singleton]; exact reps_nils _ _,fun x=> x,by simp,?_⟩
  simp only[simprocAttr, -Int.reduceNatCast',R1,hl_0,h0_0]
 ·rintro i l e ⟨E,c⟩ ⟨vs,K,g1,g2,g3,g4,hl_1,h0_1,h3_1,h4_1⟩ hlt hw o ho
  unfold F13_1_B at ho;obtain⟨x7,gx7,ho⟩:=bS ho;obtain⟨w6a,w6b⟩:=getI_w gx7;obtain⟨x9,gx9,ho⟩:=bS ho;have w8:=x48 x7 gx9;obtain⟨x11,gx11,ho⟩:=bS ho;obtain⟨l13,gl13,ho⟩:=bS ho;have sm:l13=l.set i.toNat x9:=setI_eq gl13;have hE:=Option.some.inj ho; subst hE;have hil:i.toNat < l.length:=by omega
  have hln:=g2.len;have hE0:0 < E.length:=(List.getElem?_eq_some_iff.1 g1).1;obtain⟨x,K1,K2,f1,f2,f3,f4,f5⟩:=g2.focus hil;obtain⟨v,⟨E1,c1⟩,t1,t2,t3,t4⟩:=thaw_deep (α:=List (List Int)) (by decide) x9 ⟨E,c⟩;have t1':thaw 16 [1,1] (V.isl (x9.map Enc.enc)) ⟨E,c⟩=some (v,⟨E1,c1⟩):=t1;obtain⟨v1,v2⟩:=rep_one t2;simp only at t2 t3 t4 g1;have p0:E1[0]? =some (0,some vs):=(t4 0 hE0).trans g1;have hs:List.take i.toNat vs++[v]++List.drop (i.toNat+1) vs=vs.set i.toNat (v):=by
   rw[List.set_eq_take_append_cons_drop,if_pos (by omega)]; simp
  have hle:i.toNat+1≤vs.length:=by omega
  simp only[simprocAttr, -Int.reduceNatCast',R1,b13_1,hl_1,h0_1,h3_1,h4_1,eq_true hlt,hw,w6a,w6b,w8,callM_tans,t1',v1,v2,p0,hs,hle];have r1:=f5 ⟨E1.set 0 (0,some (vs.set i.toNat v)),c1⟩ v x9 (fun k=> E.length≤k∧k < E1.length) (fun k=>(E.length≤k∧k < E1.length)∨K2 k)
   (Deep.frame t2 fun k q=> set_ne (by omega))
   (fun k q=>(set_ne (E:=E1) (key:=0) (k:=k) (fun e:k=0=> g3 (e▸(f4 k).2 (.inr q)))).trans (t4 k (g2.bd ((f4 k).2 (.inr q)))))
   (fun k q q2=> by have:=g2.bd ((f4 k).2 (.inr q2)); simp only at this; omega) (fun k=> Iff.rfl)
  refine And.intro rfl ⟨_,fun k=>(E.length≤k∧k < E1.length)∨K2 k,set_app_key (by omega),by rw[sm]; exact r1,fun q=> q.elim (fun q=> by omega) (fun q=> g3 ((f4 0).2 (.inr q))),by rw[sm,List.length_set]; exact g4,?_⟩;simp only[simprocAttr, -Int.reduceNatCast',R1,hl_1,h0_1,h3_1,h4_1,hw]
 ·rintro i l e ⟨E,c⟩ ⟨vs,K,g1,g2,g3,g4,hl_1,h0_1,h3_1,h4_1⟩ hge t1 ho
  unfold F13_1_D at ho;have hE:=Option.some.inj ho; subst hE;simp only[simprocAttr, -Int.reduceNatCast',R1,b13_1,hl_1,h0_1,h3_1,h4_1,eq_false hge];intro ht; subst ht;refine And.intro (fun _=> trivial) ⟨_,by simp only[simprocAttr, -Int.reduceNatCast',R1,fn_out,p13,Rs.ev,hl_1]; rfl,fun k=> k=0∨K k,.inr ⟨0,0,vs,K,by rw[g4],g1,g2,g3,fun k=> Iff.rfl⟩⟩
theorem x13(a0:List (List (List Int))){r:List (List (List Int))}(hF:F13 a0=some r):tans A 13 [1,1,1] [V.isl (a0.map Enc.enc)]=some (Enc.enc r):=tans_of_deep (α:=List (List (List Int))) (by decide) (d13 a0 hF)
def F12(a0:GComplex):Option GComplex:=
 (F47 a0.Dims).bind fun x1=>
 (F13 a0.Maps).bind fun x3=>
 some ⟨a0.Prime,x1,x3⟩
theorem d12(x:GComplex){r:GComplex}(hF:F12 x=some r):∃v h',res A 12 [(eC x)] Heap.empty=some (v,h')∧∃dv mv,∃K1 K2:Ks,v=V.agg [V.int .i64 r.Prime,dv,mv]∧Deep.rep h' dv r.Dims K1∧Deep.rep h' mv r.Maps K2∧∀k,K1 k→¬K2 k:=by
 refine res_dp (f:=p12) rfl rfl rfl fun e hl he=>?_;have h0_0:e.at 0=(eC x):=he 0 _ rfl;have hl_0:e.length=16:=hl;clear he hl;show W A b12 e ⟨[],0⟩ _;unfold F12 at hF;obtain⟨d,gd,hF⟩:=bS hF;have w1:=t47 x.Dims gd;obtain⟨ms,gm,hF⟩:=bS hF;have w2:=x13 x.Maps gm;cases hF;obtain⟨mv,⟨E1,c1⟩,t1,t2,t3,t4⟩:=thaw_deep (α:=List (List (List Int))) (by decide) ms ⟨[(0,none),(1,some [V.int .i64 0,V.nils,V.nils]),(2,some [V.int .i64 x.Prime,V.sl 3 3 0 d.length 1,V.nils]),(3,some (d.map Enc.enc))],4⟩;have t1':thaw 16 [1,1,1] (V.isl (ms.map Enc.enc)) ⟨[(0,none),(1,some [V.int .i64 0,V.nils,V.nils]),(2,some [V.int .i64 x.Prime,V.sl 3 3 0 d.length 1,V.nils]),(3,some (d.map Enc.enc))],4⟩=some (mv,⟨E1,c1⟩):=t1;obtain⟨v1,v2⟩:=rep_one t2;simp only[List.length_cons,List.length_nil,Nat.zero_add,Nat.reduceAdd]at t2 t3 t4;have m1:E1[1]? =some (1,some [V.int .i64 0,V.nils,V.nils]):=t4 1 (by decide);have m2:E1[2]? =some (2,some [V.int .i64 x.Prime,V.sl 3 3 0 d.length 1,V.nils]):=t4 2 (by decide);have m3:E1[3]? =some (3,some (d.map Enc.enc)):=t4 3 (by decide);have n1:∀z,(E1.set 2 z)[1]? =_:=fun z=>(set_ne (by decide)).trans m1;have n2:∀z,(E1.set 2 z)[2]? =some z:=fun z=> set_app_key (by omega);simp only[simprocAttr,R0,b12,hl_0,h0_0,w1,w2,callM_tans,thaw_one,t1',v1,v2,m1,m2,n1,n2];refine And.intro (fun _=> trivial) ⟨_,by simp only[simprocAttr,R0,fn_out,p12,Rs.ev,hl_0,set_app_key (show 1 < (E1.set 2 (2,some [V.int .i64 x.Prime,V.sl 3 3 0 d.length 1,mv])).length by simp; omega)],V.sl 3 3 0 d.length 1,mv,fun k=> k=3,_,rfl,int_row ((set_ne (by decide)).trans ((set_ne (by decide)).trans m3)) (fun k=> Iff.rfl),Deep.frame t2 fun k q=>(set_ne (by omega)).trans (set_ne (by omega)),fun k q=> by omega⟩
theorem s12(x:GComplex){r:GComplex}(hF:F12 x=some r):ans A 12 [(eC x)]=some (Enc.enc r):=by
 obtain⟨v,h',h1,dv,mv,K1,K2,rfl,h2,h3,h4⟩:=d12 x hF;exact ans_agg2 h1 h2 h3
theorem x12(x:GComplex){r:GComplex}(hF:F12 x=some r):tans A 12 [1,1,1] [(eC x)]=some ((eC r)):=by
 obtain⟨v,h',h1,dv,mv,K1,K2,rfl,h2,h3,h4⟩:=d12 x hF;exact tans_agg2 h1 h2 h3 h4
def F30_1_B(a0:List Int)(a1:List Int)(v5_1:Int)(s:Unit):Option ((Unit)⊕((Unit)⊕Bool)):=
 (getI a0 v5_1).bind fun x5=>
(getI a1 v5_1).bind fun x7=>
if x5=x7 then
 some (.inl ())
else
 some (.inr (.inr false))
def F30_1_D(a0:List Int)(a1:List Int)(v5_1:Int)(s:Unit):Option ((Unit)⊕Bool):=
 some (.inl ())
def F30(a0:List Int)(a1:List Int):Option Bool:=
 if(a0.length:Int)=(a1.length:Int)then
  (forR 0 (a0.length:Int) (F30_1_B a0 a1) (F30_1_D a0 a1) ()).bind fun t10=> match t10 with
   | .inl _=>
    some true
   | .inr r11=> some r11
 else
  some false
def I30_1(a0:List Int)(a1:List Int)(v5_1:Int)(s:Unit)(e:Env)(h:Heap):Prop:=
 ∃k3:Nat,h=⟨[],k3⟩∧e.length=26∧e.at 0=V.isl (a0.map Enc.enc)∧e.at 1=V.isl (a1.map Enc.enc)∧e.at 5=V.int .i64 v5_1
def P30_1(a0:List Int)(a1:List Int)(t:(Unit)⊕Bool)(x:Ex)(e:Env)(h:Heap):Prop:=
 match t with
 | .inl _=> x= .normal∧∃k3:Nat,h=⟨[],k3⟩∧e.length=26
 | .inr r=> x= .ret∧Fin p30 (Enc.enc r) .ret e h
theorem l30_1(a0:List Int)(a1:List Int){lo:Int}{s:Unit}{t:(Unit)⊕Bool}(hF:forR lo (a0.length:Int) (F30_1_B a0 a1) (F30_1_D a0 a1) s=some t){e:Env}{h:Heap}(hI:I30_1 a0 a1 lo s e h):W A c30_1 e h (P30_1 a0 a1 t):=by
 show W A (.block 0 (.loop false b30_1)) e h _;rw[W_block];refine W_forR hF 0 (by obtain⟨_,rfl,_⟩:=hI; rfl) (I30_1 a0 a1) hI ?_ ?_
 ·rintro v5_1 _ e h ⟨k3,rfl,h_2⟩ hlt hw o ho
  unfold F30_1_B at ho;obtain⟨x5,gx5,ho⟩:=bS ho;obtain⟨w6a,w6b⟩:=getI_w gx5;obtain⟨x7,gx7,ho⟩:=bS ho;obtain⟨w8a,w8b⟩:=getI_w gx7;by_cases c9:x5=x7
  ·rw[if_pos c9]at ho
   cases ho;simp only[simprocAttr,R0,b30_1,h_2,eq_true hlt,hw,w6a,w6b,w8a,w8b,eq_true c9];refine And.intro rfl (Exists.intro _ (And.intro rfl ?_));simp only[simprocAttr,R0,h_2,eq_true hlt,hw,w6a,w6b,w8a,w8b,eq_true c9]
  ·rw[if_neg c9]at ho
   cases ho;simp only[simprocAttr,R0,b30_1,h_2,eq_true hlt,hw,w6a,w6b,w8a,w8b,eq_false c9];intro ht; subst ht;simp only[simprocAttr,RR,RB];exact And.intro rfl (fin_ret (by simp only[simprocAttr,R0,fn_out,p30,Rs.ev,take_len_self,h_2,eq_true hlt,hw,w6a,w6b,w8a,w8b,eq_false c9]))
 ·rintro v5_1 _ e h ⟨k3,rfl,h_2⟩ hge t1 ho
  unfold F30_1_D at ho;cases ho;simp only[simprocAttr,R0,b30_1,h_2,eq_false hge];intro ht; subst ht;refine And.intro rfl (Exists.intro _ (And.intro rfl ?_));simp only[simprocAttr,R0,h_2,eq_false hge]
theorem s30(a0:List Int)(a1:List Int){r:Bool}(hF:F30 a0 a1=some r):ans A 30 [V.isl (a0.map Enc.enc),V.isl (a1.map Enc.enc)]=some (Enc.enc r):=by
 refine ans_of (f:=p30) rfl rfl rfl fun e hl he=>?_;have h0_0:e.at 0=V.isl (a0.map Enc.enc):=he 0 _ rfl;have h1_0:e.at 1=V.isl (a1.map Enc.enc):=he 1 _ rfl;have hl_0:e.length=26:=hl;clear he hl;have h_0:=And.intro hl_0 (And.intro h0_0 h1_0);show W A b30 e ⟨[],0⟩ _;unfold F30 at hF;by_cases c1:(a0.length:Int)=(a1.length:Int)
 ·rw[if_pos c1]at hF
  obtain⟨t10,gt10,hF⟩:=bS hF;rcases t10 with _|r11
  ·dsimp only at hF
   simp only[simprocAttr,R0,b30,h_0,eq_true c1];refine W.mono (l30_1 a0 a1 gt10 (Exists.intro _ (And.intro rfl ?_))) ?_
   ·simp only[simprocAttr,R0,h_0,eq_true c1]
   rintro _ e _ ⟨rfl,k3,rfl,hl_4⟩;cases hF;simp only[simprocAttr,R0,hl_4,eq_true c1];exact fin_ret (by simp only[simprocAttr,R0,fn_out,p30,Rs.ev,take_len_self,hl_4,eq_true c1])
  ·dsimp only at hF
   cases hF;simp only[simprocAttr,R0,b30,h_0,eq_true c1];refine W.mono (l30_1 a0 a1 gt10 (Exists.intro _ (And.intro rfl ?_))) ?_
   ·simp only[simprocAttr,R0,h_0,eq_true c1]
   rintro _ e h ⟨rfl,hq⟩;simp only[simprocAttr,RR,RB];exact hq
 ·rw[if_neg c1]at hF
  cases hF;simp only[simprocAttr,R0,b30,h_0,eq_false c1];exact fin_ret (by simp only[simprocAttr,R0,fn_out,p30,Rs.ev,take_len_self,h_0,eq_false c1])
def F51_1_B(a0:List (List Int))(a1:List (List Int))(v5_1:Int)(s:Unit):Option ((Unit)⊕((Unit)⊕Bool)):=
 (getI a0 v5_1).bind fun x5=>
(getI a1 v5_1).bind fun x7=>
(F30 x5 x7).bind fun x9=>
if x9=true then
 some (.inl ())
else
 some (.inr (.inr false))
def F51_1_D(a0:List (List Int))(a1:List (List Int))(v5_1:Int)(s:Unit):Option ((Unit)⊕Bool):=
 some (.inl ())
def F51(a0:List (List Int))(a1:List (List Int)):Option Bool:=
 if(a0.length:Int)=(a1.length:Int)then
  (forR 0 (a0.length:Int) (F51_1_B a0 a1) (F51_1_D a0 a1) ()).bind fun t11=> match t11 with
   | .inl _=>
    some true
   | .inr r12=> some r12
 else
  some false
def I51_1(a0:List (List Int))(a1:List (List Int))(v5_1:Int)(s:Unit)(e:Env)(h:Heap):Prop:=
 ∃k3:Nat,h=⟨[],k3⟩∧e.length=27∧e.at 0=V.isl (a0.map Enc.enc)∧e.at 1=V.isl (a1.map Enc.enc)∧e.at 5=V.int .i64 v5_1
def P51_1(a0:List (List Int))(a1:List (List Int))(t:(Unit)⊕Bool)(x:Ex)(e:Env)(h:Heap):Prop:=
 match t with
 | .inl _=> x= .normal∧∃k3:Nat,h=⟨[],k3⟩∧e.length=27
 | .inr r=> x= .ret∧Fin p51 (Enc.enc r) .ret e h
theorem l51_1(a0:List (List Int))(a1:List (List Int)){lo:Int}{s:Unit}{t:(Unit)⊕Bool}(hF:forR lo (a0.length:Int) (F51_1_B a0 a1) (F51_1_D a0 a1) s=some t){e:Env}{h:Heap}(hI:I51_1 a0 a1 lo s e h):W A c51_1 e h (P51_1 a0 a1 t):=by
 show W A (.block 0 (.loop false b51_1)) e h _;rw[W_block];refine W_forR hF 0 (by obtain⟨_,rfl,_⟩:=hI; rfl) (I51_1 a0 a1) hI ?_ ?_
 ·rintro v5_1 _ e h ⟨k3,rfl,h_2⟩ hlt hw o ho
  unfold F51_1_B at ho;obtain⟨x5,gx5,ho⟩:=bS ho;obtain⟨w6a,w6b⟩:=getI_w gx5;obtain⟨x7,gx7,ho⟩:=bS ho;obtain⟨w8a,w8b⟩:=getI_w gx7;obtain⟨x9,gx9,ho⟩:=bS ho;have w10:ans A 30 [V.isl (x5.map Enc.enc),V.isl (x7.map Enc.enc)]=some (V.bool x9):=s30 x5 x7 gx9;cases x9 with
  |true=>
   rw[if_pos rfl]at ho;cases ho;simp only[simprocAttr,R0,b51_1,h_2,eq_true hlt,hw,w6a,w6b,w8a,w8b,w10];refine And.intro rfl (Exists.intro _ (And.intro rfl ?_));simp only[simprocAttr,R0,h_2,eq_true hlt,hw,w6a,w6b,w8a,w8b,w10]
  |false=>
   rw[if_neg Bool.false_ne_true]at ho;cases ho;simp only[simprocAttr,R0,b51_1,h_2,eq_true hlt,hw,w6a,w6b,w8a,w8b,w10];intro ht; subst ht;simp only[simprocAttr,RR,RB];exact And.intro rfl (fin_ret (by simp only[simprocAttr,R0,fn_out,p51,Rs.ev,take_len_self,h_2,eq_true hlt,hw,w6a,w6b,w8a,w8b,w10]))
 ·rintro v5_1 _ e h ⟨k3,rfl,h_2⟩ hge t1 ho
  unfold F51_1_D at ho;cases ho;simp only[simprocAttr,R0,b51_1,h_2,eq_false hge];intro ht; subst ht;refine And.intro rfl (Exists.intro _ (And.intro rfl ?_));simp only[simprocAttr,R0,h_2,eq_false hge]
theorem s51(a0:List (List Int))(a1:List (List Int)){r:Bool}(hF:F51 a0 a1=some r):ans A 51 [V.isl (a0.map Enc.enc),V.isl (a1.map Enc.enc)]=some (Enc.enc r):=by
 refine ans_of (f:=p51) rfl rfl rfl fun e hl he=>?_;have h0_0:e.at 0=V.isl (a0.map Enc.enc):=he 0 _ rfl;have h1_0:e.at 1=V.isl (a1.map Enc.enc):=he 1 _ rfl;have hl_0:e.length=27:=hl;clear he hl;have h_0:=And.intro hl_0 (And.intro h0_0 h1_0);show W A b51 e ⟨[],0⟩ _;unfold F51 at hF;by_cases c1:(a0.length:Int)=(a1.length:Int)
 ·rw[if_pos c1]at hF
  obtain⟨t11,gt11,hF⟩:=bS hF;rcases t11 with _|r12
  ·dsimp only at hF
   simp only[simprocAttr,R0,b51,h_0,eq_true c1];refine W.mono (l51_1 a0 a1 gt11 (Exists.intro _ (And.intro rfl ?_))) ?_
   ·simp only[simprocAttr,R0,h_0,eq_true c1]
   rintro _ e _ ⟨rfl,k3,rfl,hl_4⟩;cases hF;simp only[simprocAttr,R0,hl_4,eq_true c1];exact fin_ret (by simp only[simprocAttr,R0,fn_out,p51,Rs.ev,take_len_self,hl_4,eq_true c1])
  ·dsimp only at hF
   cases hF;simp only[simprocAttr,R0,b51,h_0,eq_true c1];refine W.mono (l51_1 a0 a1 gt11 (Exists.intro _ (And.intro rfl ?_))) ?_
   ·simp only[simprocAttr,R0,h_0,eq_true c1]
   rintro _ e h ⟨rfl,hq⟩;simp only[simprocAttr,RR,RB];exact hq
 ·rw[if_neg c1]at hF
  cases hF;simp only[simprocAttr,R0,b51,h_0,eq_false c1];exact fin_ret (by simp only[simprocAttr,R0,fn_out,p51,Rs.ev,take_len_self,h_0,eq_false c1])
def F17_1_B(a0:List (List (List Int)))(a1:List (List (List Int)))(v5_1:Int)(s:Unit):Option ((Unit)⊕((Unit)⊕Bool)):=
 (getI a0 v5_1).bind fun x5=>
(getI a1 v5_1).bind fun x7=>
(F51 x5 x7).bind fun x9=>
if x9=true then
 some (.inl ())
else
 some (.inr (.inr false))
def F17_1_D(a0:List (List (List Int)))(a1:List (List (List Int)))(v5_1:Int)(s:Unit):Option ((Unit)⊕Bool):=
 some (.inl ())
def F17(a0:List (List (List Int)))(a1:List (List (List Int))):Option Bool:=
 if(a0.length:Int)=(a1.length:Int)then
  (forR 0 (a0.length:Int) (F17_1_B a0 a1) (F17_1_D a0 a1) ()).bind fun t11=> match t11 with
   | .inl _=>
    some true
   | .inr r12=> some r12
 else
  some false
def I17_1(a0:List (List (List Int)))(a1:List (List (List Int)))(v5_1:Int)(s:Unit)(e:Env)(h:Heap):Prop:=
 ∃k3:Nat,h=⟨[],k3⟩∧e.length=27∧e.at 0=V.isl (a0.map Enc.enc)∧e.at 1=V.isl (a1.map Enc.enc)∧e.at 5=V.int .i64 v5_1
def P17_1(a0:List (List (List Int)))(a1:List (List (List Int)))(t:(Unit)⊕Bool)(x:Ex)(e:Env)(h:Heap):Prop:=
 match t with
 | .inl _=> x= .normal∧∃k3:Nat,h=⟨[],k3⟩∧e.length=27
 | .inr r=> x= .ret∧Fin p17 (Enc.enc r) .ret e h
theorem l17_1(a0:List (List (List Int)))(a1:List (List (List Int))){lo:Int}{s:Unit}{t:(Unit)⊕Bool}(hF:forR lo (a0.length:Int) (F17_1_B a0 a1) (F17_1_D a0 a1) s=some t){e:Env}{h:Heap}(hI:I17_1 a0 a1 lo s e h):W A c17_1 e h (P17_1 a0 a1 t):=by
 show W A (.block 0 (.loop false b17_1)) e h _;rw[W_block];refine W_forR hF 0 (by obtain⟨_,rfl,_⟩:=hI; rfl) (I17_1 a0 a1) hI ?_ ?_
 ·rintro v5_1 _ e h ⟨k3,rfl,h_2⟩ hlt hw o ho
  unfold F17_1_B at ho;obtain⟨x5,gx5,ho⟩:=bS ho;obtain⟨w6a,w6b⟩:=getI_w gx5;obtain⟨x7,gx7,ho⟩:=bS ho;obtain⟨w8a,w8b⟩:=getI_w gx7;obtain⟨x9,gx9,ho⟩:=bS ho;have w10:ans A 51 [V.isl (x5.map Enc.enc),V.isl (x7.map Enc.enc)]=some (V.bool x9):=s51 x5 x7 gx9;cases x9 with
  |true=>
   rw[if_pos rfl]at ho;cases ho;simp only[simprocAttr,R0,b17_1,h_2,eq_true hlt,hw,w6a,w6b,w8a,w8b,w10];refine And.intro rfl (Exists.intro _ (And.intro rfl ?_));simp only[simprocAttr,R0,h_2,eq_true hlt,hw,w6a,w6b,w8a,w8b,w10]
  |false=>
   rw[if_neg Bool.false_ne_true]at ho;cases ho;simp only[simprocAttr,R0,b17_1,h_2,eq_true hlt,hw,w6a,w6b,w8a,w8b,w10];intro ht; subst ht;simp only[simprocAttr,RR,RB];exact And.intro rfl (fin_ret (by simp only[simprocAttr,R0,fn_out,p17,Rs.ev,take_len_self,h_2,eq_true hlt,hw,w6a,w6b,w8a,w8b,w10]))
 ·rintro v5_1 _ e h ⟨k3,rfl,h_2⟩ hge t1 ho
  unfold F17_1_D at ho;cases ho;simp only[simprocAttr,R0,b17_1,h_2,eq_false hge];intro ht; subst ht;refine And.intro rfl (Exists.intro _ (And.intro rfl ?_));simp only[simprocAttr,R0,h_2,eq_false hge]
theorem s17(a0:List (List (List Int)))(a1:List (List (List Int))){r:Bool}(hF:F17 a0 a1=some r):ans A 17 [V.isl (a0.map Enc.enc),V.isl (a1.map Enc.enc)]=some (Enc.enc r):=by
 refine ans_of (f:=p17) rfl rfl rfl fun e hl he=>?_;have h0_0:e.at 0=V.isl (a0.map Enc.enc):=he 0 _ rfl;have h1_0:e.at 1=V.isl (a1.map Enc.enc):=he 1 _ rfl;have hl_0:e.length=27:=hl;clear he hl;have h_0:=And.intro hl_0 (And.intro h0_0 h1_0);show W A b17 e ⟨[],0⟩ _;unfold F17 at hF;by_cases c1:(a0.length:Int)=(a1.length:Int)
 ·rw[if_pos c1]at hF
  obtain⟨t11,gt11,hF⟩:=bS hF;rcases t11 with _|r12
  ·dsimp only at hF
   simp only[simprocAttr,R0,b17,h_0,eq_true c1];refine W.mono (l17_1 a0 a1 gt11 (Exists.intro _ (And.intro rfl ?_))) ?_
   ·simp only[simprocAttr,R0,h_0,eq_true c1]
   rintro _ e _ ⟨rfl,k3,rfl,hl_4⟩;cases hF;simp only[simprocAttr,R0,hl_4,eq_true c1];exact fin_ret (by simp only[simprocAttr,R0,fn_out,p17,Rs.ev,take_len_self,hl_4,eq_true c1])
  ·dsimp only at hF
   cases hF;simp only[simprocAttr,R0,b17,h_0,eq_true c1];refine W.mono (l17_1 a0 a1 gt11 (Exists.intro _ (And.intro rfl ?_))) ?_
   ·simp only[simprocAttr,R0,h_0,eq_true c1]
   rintro _ e h ⟨rfl,hq⟩;simp only[simprocAttr,RR,RB];exact hq
 ·rw[if_neg c1]at hF
  cases hF;simp only[simprocAttr,R0,b17,h_0,eq_false c1];exact fin_ret (by simp only[simprocAttr,R0,fn_out,p17,Rs.ev,take_len_self,h_0,eq_false c1])
def F16(a0:GComplex)(a1:GComplex):Option Bool:=
 if a0.Prime=a1.Prime then
  (F30 a0.Dims a1.Dims).bind fun x2=>
  if x2=true then
   (F17 a0.Maps a1.Maps).bind fun x4=>
   if x4=true then
    some true
   else
    some false
  else
   some false
 else
  some false
theorem s16(a0:GComplex)(a1:GComplex){r:Bool}(hF:F16 a0 a1=some r):ans A 16 [(eC a0),(eC a1)]=some (Enc.enc r):=by
 refine ans_of (f:=p16) rfl rfl rfl fun e hl he=>?_;have h0_0:e.at 0=(eC a0):=he 0 _ rfl;have h1_0:e.at 1=(eC a1):=he 1 _ rfl;have hl_0:e.length=22:=hl;clear he hl;have h_0:=And.intro hl_0 (And.intro h0_0 h1_0);show W A b16 e ⟨[],0⟩ _;unfold F16 at hF;by_cases c1:a0.Prime=a1.Prime
 ·rw[if_pos c1]at hF
  obtain⟨x2,gx2,hF⟩:=bS hF;have w3:ans A 30 [V.isl (a0.Dims.map Enc.enc),V.isl (a1.Dims.map Enc.enc)]=some (V.bool x2):=s30 a0.Dims a1.Dims gx2;cases x2 with
  |true=>
   rw[if_pos rfl]at hF;obtain⟨x4,gx4,hF⟩:=bS hF;have w5:ans A 17 [V.isl (a0.Maps.map Enc.enc),V.isl (a1.Maps.map Enc.enc)]=some (V.bool x4):=s17 a0.Maps a1.Maps gx4;cases x4 with
   |true=>
    rw[if_pos rfl]at hF;cases hF;simp only[simprocAttr,R0,b16,h_0,eq_true c1,w3,w5];exact fin_ret (by simp only[simprocAttr,R0,fn_out,p16,Rs.ev,take_len_self,h_0,eq_true c1,w3,w5])
   |false=>
    rw[if_neg Bool.false_ne_true]at hF;cases hF;simp only[simprocAttr,R0,b16,h_0,eq_true c1,w3,w5];exact fin_ret (by simp only[simprocAttr,R0,fn_out,p16,Rs.ev,take_len_self,h_0,eq_true c1,w3,w5])
  |false=>
   rw[if_neg Bool.false_ne_true]at hF;cases hF;simp only[simprocAttr,R0,b16,h_0,eq_true c1,w3];exact fin_ret (by simp only[simprocAttr,R0,fn_out,p16,Rs.ev,take_len_self,h_0,eq_true c1,w3])
 ·rw[if_neg c1]at hF
  cases hF;simp only[simprocAttr,R0,b16,h_0,eq_false c1];exact fin_ret (by simp only[simprocAttr,R0,fn_out,p16,Rs.ev,take_len_self,h_0,eq_false c1])
def F31_1_B(i:Int)(s:List Int×Int):Option ((List Int×Int)⊕(List Int×Int)):=
 (setI s.1 i s.2).bind fun l=>(chk (s.2+1)).bind fun k=> some (.inl (l,k))
def F31_1_D(i:Int)(s:List Int×Int):Option (List Int×Int):=some s
def F31(l:List Int)(k:Int):Option (List Int×Int):=forR 0 (l.length:Int) F31_1_B F31_1_D (l,k)
theorem d31{l:List Int}{k:Int}{r:List Int×Int}(hF:F31 l k=some r)(h:Heap){v:V}{K:Ks}(hr:Deep.rep h v l K):
  ∃h',res A 31 [v,V.int .i64 k] h=some (V.int .i64 r.2,h')∧Deep.rep h' v r.1 K∧(∀k,¬K k→h'.ents[k]? =h.ents[k]?)∧h'.ents.length=h.ents.length:=by
 refine res_ex (f:=p31) rfl rfl rfl fun e hl he=>?_;have h0_0:e.at 0=v:=he 0 _ rfl;have h1_0:e.at 1=V.int .i64 k:=he 1 _ rfl;have hl_0:e.length=19:=hl;clear he hl;show W A b31 e h _;unfold F31 at hF;obtain⟨E,c⟩:=h;simp only[simprocAttr, -Int.reduceNatCast',R1,b31,hl_0,h0_0,h1_0];show W A (.block 0 (.loop true b31_1)) _ _ _;rw[W_block];refine W_forR hF _ rfl (fun i s e h=> Deep.rep h v s.1 K∧(∀k,¬K k→h.ents[k]? =E[k]?)∧h.ents.length=E.length∧s.1.length=l.length∧e.length=19∧e.at 0=v∧e.at 1=V.int .i64 s.2∧e.at 5=V.int .i64 i) ?_ ?_ ?_
 ·refine⟨hr,fun _ _=> rfl,rfl,rfl,?_⟩
  simp only[simprocAttr, -Int.reduceNatCast',R1,hl_0,h0_0,h1_0]
 ·clear hl_0 h0_0 h1_0
  rintro i ⟨s,q⟩ e ⟨E3,c3⟩ ⟨q1,q2,q3,q4,hl_1,h0_1,h1_1,h5_1⟩ hlt hw oo ho;unfold F31_1_B at ho;simp only at ho q1 q2 q3 q4 h1_1;obtain⟨s2,gs,ho⟩:=bS ho;obtain⟨s1,s2',s3,s4,s5⟩:=setI_w gs;obtain⟨k2,gk,ho⟩:=bS ho;have wk:=chk_w gk;have hE:=Option.some.inj ho; subst hE;rcases row_int q1 with⟨_,rfl,_⟩|⟨key3,uid3,hx2,d1,d2⟩
  ·simp at s2'; omega
  simp only at d1;have s5':List.take i.toNat (s.map Enc.enc)++[V.int .i64 q]++List.drop (i.toNat+1) (s.map Enc.enc)=List.map Enc.enc s2:=s5;rw[q4]at s3;simp only[simprocAttr, -Int.reduceNatCast',R1,b31_1,hl_1,h0_1,h1_1,h5_1,eq_true hlt,hw,hx2,q4,d1,s1,s3,s5',wk];have hk3:key3 < E3.length:=(List.getElem?_eq_some_iff.1 d1).1;have hsl:s2.length=l.length:=by rw[s4]; exact q4
  refine And.intro rfl ⟨?_,fun k nk=>?_,by rw[←q3]; simp,hsl,?_⟩
  ·rw[←hsl]; exact int_row (set_app_key hk3) d2
  ·exact(set_ne (fun e=> nk ((d2 k).2 e))).trans (q2 k nk)
  ·simp only[simprocAttr, -Int.reduceNatCast',R1,hl_1,h0_1,h1_1,h5_1,hw,hx2,q4]
 ·clear hl_0 h0_0 h1_0
  rintro i ⟨s,q⟩ e ⟨E3,c3⟩ ⟨q1,q2,q3,q4,hl_1,h0_1,h1_1,h5_1⟩ hge t1 ho;have hE:=Option.some.inj ho; subst hE;have hlen:=rep_len q1;simp only at hlen q1 q2 q3 q4 h1_1;simp only[simprocAttr, -Int.reduceNatCast',R1,b31_1,hl_1,h0_1,h1_1,h5_1,hlen,q4,eq_false hge];intro ht; subst ht;refine And.intro (fun _=> trivial) ⟨?_,q1,q2,q3⟩;simp only[simprocAttr, -Int.reduceNatCast',R1,fn_out,p31,Rs.ev,mapO,hl_1]
def F52_1_B(i:Int)(s:List (List Int)×Int):Option ((List (List Int)×Int)⊕(List (List Int)×Int)):=
 (getI s.1 i).bind fun r=>(F31 r s.2).bind fun q=>(setI s.1 i q.1).bind fun l=> some (.inl (l,q.2))
def F52_1_D(i:Int)(s:List (List Int)×Int):Option (List (List Int)×Int):=some s
def F52(l:List (List Int))(k:Int):Option (List (List Int)×Int):=forR 0 (l.length:Int) F52_1_B F52_1_D (l,k)
theorem d52{l:List (List Int)}{k:Int}{r:List (List Int)×Int}(hF:F52 l k=some r)(h:Heap){v:V}{K:Ks}(hr:Deep.rep h v l K):
  ∃h',res A 52 [v,V.int .i64 k] h=some (V.int .i64 r.2,h')∧Deep.rep h' v r.1 K∧(∀k,¬K k→h'.ents[k]? =h.ents[k]?)∧h'.ents.length=h.ents.length:=by
 refine res_ex (f:=p52) rfl rfl rfl fun e hl he=>?_;have h0_0:e.at 0=v:=he 0 _ rfl;have h1_0:e.at 1=V.int .i64 k:=he 1 _ rfl;have hl_0:e.length=19:=hl;clear he hl;show W A b52 e h _;unfold F52 at hF;obtain⟨E,c⟩:=h;simp only[simprocAttr, -Int.reduceNatCast',R1,b52,hl_0,h0_0,h1_0];show W A (.block 0 (.loop true b52_1)) _ _ _;rw[W_block];refine W_forR hF _ rfl (fun i s e h=> Deep.rep h v s.1 K∧(∀k,¬K k→h.ents[k]? =E[k]?)∧h.ents.length=E.length∧s.1.length=l.length∧e.length=19∧e.at 0=v∧e.at 1=V.int .i64 s.2∧e.at 5=V.int .i64 i) ?_ ?_ ?_
 ·refine⟨hr,fun _ _=> rfl,rfl,rfl,?_⟩
  simp only[simprocAttr, -Int.reduceNatCast',R1,hl_0,h0_0,h1_0]
 ·clear hl_0 h0_0 h1_0
  rintro i ⟨s,q⟩ e ⟨E3,c3⟩ ⟨q1,q2,q3,q4,hl_1,h0_1,h1_1,h5_1⟩ hlt hw oo ho;unfold F52_1_B at ho;simp only at ho q1 q2 q3 q4 h1_1;obtain⟨row,gr,ho⟩:=bS ho;obtain⟨ra,rb⟩:=getI_w gr;obtain⟨t,gt,ho⟩:=bS ho;obtain⟨s2,gs,ho⟩:=bS ho;have sm:s2=s.set i.toNat t.1:=setI_eq gs;have hE:=Option.some.inj ho; subst hE;obtain⟨key,uid,vs,x1,K1,hm,a1,a2,a3,a4,a5,a6⟩:=rep_focus q1 rb;obtain⟨⟨E4,c4⟩,w1,r1,r2,r3⟩:=d31 gt ⟨E3,c3⟩ a4;have o1:=ofCells_drop a2;simp only at a1 r2 r3;have hsl:s2.length=l.length:=by rw[sm,List.length_set]; exact q4
  have r4:=a6 _ _ r1 fun k _ nk=> r2 k nk;rw[←sm]at r4;simp only[simprocAttr, -Int.reduceNatCast',R1,b52_1,hl_1,h0_1,h1_1,h5_1,eq_true hlt,hw,hm,q4,a1,ra,o1,callM_plain_eq,w1];refine And.intro rfl ⟨?_,fun k nk=>(r2 k fun p=> nk (a5 k p)).trans (q2 k nk),by rw[←q3]; exact r3,hsl,?_⟩
  ·rw[←q4,←hm]; exact r4
  ·simp only[simprocAttr, -Int.reduceNatCast',R1,hl_1,h0_1,h1_1,h5_1,hw,hm,q4]
 ·clear hl_0 h0_0 h1_0
  rintro i ⟨s,q⟩ e ⟨E3,c3⟩ ⟨q1,q2,q3,q4,hl_1,h0_1,h1_1,h5_1⟩ hge t1 ho;have hE:=Option.some.inj ho; subst hE;have hlen:=rep_len q1;simp only at hlen q1 q2 q3 q4 h1_1;simp only[simprocAttr, -Int.reduceNatCast',R1,b52_1,hl_1,h0_1,h1_1,h5_1,hlen,q4,eq_false hge];intro ht; subst ht;refine And.intro (fun _=> trivial) ⟨?_,q1,q2,q3⟩;simp only[simprocAttr, -Int.reduceNatCast',R1,fn_out,p52,Rs.ev,mapO,hl_1]
def F21_1_B(i:Int)(s:List (List (List Int))×Int):Option ((List (List (List Int))×Int)⊕(List (List (List Int))×Int)):=
 (getI s.1 i).bind fun r=>(F52 r s.2).bind fun q=>(setI s.1 i q.1).bind fun l=> some (.inl (l,q.2))
def F21_1_D(i:Int)(s:List (List (List Int))×Int):Option (List (List (List Int))×Int):=some s
def F21(l:List (List (List Int)))(k:Int):Option (List (List (List Int))×Int):=forR 0 (l.length:Int) F21_1_B F21_1_D (l,k)
theorem d21{l:List (List (List Int))}{k:Int}{r:List (List (List Int))×Int}(hF:F21 l k=some r)(h:Heap){v:V}{K:Ks}(hr:Deep.rep h v l K):
  ∃h',res A 21 [v,V.int .i64 k] h=some (V.int .i64 r.2,h')∧Deep.rep h' v r.1 K∧(∀k,¬K k→h'.ents[k]? =h.ents[k]?)∧h'.ents.length=h.ents.length:=by
 refine res_ex (f:=p21) rfl rfl rfl fun e hl he=>?_;have h0_0:e.at 0=v:=he 0 _ rfl;have h1_0:e.at 1=V.int .i64 k:=he 1 _ rfl;have hl_0:e.length=19:=hl;clear he hl;show W A b21 e h _;unfold F21 at hF;obtain⟨E,c⟩:=h;simp only[simprocAttr, -Int.reduceNatCast',R1,b21,hl_0,h0_0,h1_0];show W A (.block 0 (.loop true b21_1)) _ _ _;rw[W_block];refine W_forR hF _ rfl (fun i s e h=> Deep.rep h v s.1 K∧(∀k,¬K k→h.ents[k]? =E[k]?)∧h.ents.length=E.length∧s.1.length=l.length∧e.length=19∧e.at 0=v∧e.at 1=V.int .i64 s.2∧e.at 5=V.int .i64 i) ?_ ?_ ?_
 ·refine⟨hr,fun _ _=> rfl,rfl,rfl,?_⟩
  simp only[simprocAttr, -Int.reduceNatCast',R1,hl_0,h0_0,h1_0]
 ·clear hl_0 h0_0 h1_0
  rintro i ⟨s,q⟩ e ⟨E3,c3⟩ ⟨q1,q2,q3,q4,hl_1,h0_1,h1_1,h5_1⟩ hlt hw oo ho;unfold F21_1_B at ho;simp only at ho q1 q2 q3 q4 h1_1;obtain⟨row,gr,ho⟩:=bS ho;obtain⟨ra,rb⟩:=getI_w gr;obtain⟨t,gt,ho⟩:=bS ho;obtain⟨s2,gs,ho⟩:=bS ho;have sm:s2=s.set i.toNat t.1:=setI_eq gs;have hE:=Option.some.inj ho; subst hE;obtain⟨key,uid,vs,x1,K1,hm,a1,a2,a3,a4,a5,a6⟩:=rep_focus q1 rb;obtain⟨⟨E4,c4⟩,w1,r1,r2,r3⟩:=d52 gt ⟨E3,c3⟩ a4;have o1:=ofCells_drop a2;simp only at a1 r2 r3;have hsl:s2.length=l.length:=by rw[sm,List.length_set]; exact q4
  have r4:=a6 _ _ r1 fun k _ nk=> r2 k nk;rw[←sm]at r4;simp only[simprocAttr, -Int.reduceNatCast',R1,b21_1,hl_1,h0_1,h1_1,h5_1,eq_true hlt,hw,hm,q4,a1,ra,o1,callM_plain_eq,w1];refine And.intro rfl ⟨?_,fun k nk=>(r2 k fun p=> nk (a5 k p)).trans (q2 k nk),by rw[←q3]; exact r3,hsl,?_⟩
  ·rw[←q4,←hm]; exact r4
  ·simp only[simprocAttr, -Int.reduceNatCast',R1,hl_1,h0_1,h1_1,h5_1,hw,hm,q4]
 ·clear hl_0 h0_0 h1_0
  rintro i ⟨s,q⟩ e ⟨E3,c3⟩ ⟨q1,q2,q3,q4,hl_1,h0_1,h1_1,h5_1⟩ hge t1 ho;have hE:=Option.some.inj ho; subst hE;have hlen:=rep_len q1;simp only at hlen q1 q2 q3 q4 h1_1;simp only[simprocAttr, -Int.reduceNatCast',R1,b21_1,hl_1,h0_1,h1_1,h5_1,hlen,q4,eq_false hge];intro ht; subst ht;refine And.intro (fun _=> trivial) ⟨?_,q1,q2,q3⟩;simp only[simprocAttr, -Int.reduceNatCast',R1,fn_out,p21,Rs.ev,mapO,hl_1]
def F20(d:List Int)(ms:List (List (List Int)))(k:Int):Option (List Int×List (List (List Int))×Int):=
 (F31 d k).bind fun q=>(F21 ms q.2).bind fun t=> some (q.1,t.1,t.2)
def FM20(x:GComplex)(k:Int):Option (GComplex×Int):=(F20 x.Dims x.Maps k).bind fun t=> some (⟨x.Prime,t.1,t.2.1⟩,t.2.2)
theorem d20{d:List Int}{ms:List (List (List Int))}{p k:Int}{r:List Int×List (List (List Int))×Int}(hF:F20 d ms k=some r)(h:Heap){dv mv:V}{K1 K2:Ks}(h1:Deep.rep h dv d K1)(h2:Deep.rep h mv ms K2)(hd:∀k,K1 k→¬K2 k):
  ∃h',res A 20 [V.agg [V.int .i64 p,dv,mv],V.int .i64 k] h=some (V.int .i64 r.2.2,h')∧Deep.rep h' dv r.1 K1∧Deep.rep h' mv r.2.1 K2∧(∀k,k < h.ents.length→¬K1 k→¬K2 k→h'.ents[k]? =h.ents[k]?)∧h.ents.length≤h'.ents.length:=by
 refine res_ex (f:=p20) rfl rfl rfl fun e hl he=>?_;have h0_0:e.at 0=V.agg [V.int .i64 p,dv,mv]:=he 0 _ rfl;have h1_0:e.at 1=V.int .i64 k:=he 1 _ rfl;have hl_0:e.length=14:=hl;clear he hl;show W A b20 e h _;unfold F20 at hF;obtain⟨q,gq,hF⟩:=bS hF;obtain⟨t,gt,hF⟩:=bS hF;cases hF;obtain⟨E,c⟩:=h;have pre:∀ (x:Nat×Option (List V)) k,k < E.length→(E++[x])[k]? =E[k]?:=fun x k hk=> List.getElem?_append_left hk;have n1:¬K1 E.length:=fun x=> by have:=Deep.bd h1 x; simp at this
 have n2:¬K2 E.length:=fun x=> by have:=Deep.bd h2 x; simp at this
 obtain⟨⟨E3,c3⟩,w1,a1,a2,a3⟩:=d31 gq ⟨E++[(c,some [V.int .i64 p,dv,mv])],c+1⟩ (Deep.frame h1 fun k hk=> pre _ k (Deep.bd h1 hk));simp only at a2 a3;have m1:E3[E.length]? =some (c,some [V.int .i64 p,dv,mv]):=(a2 _ n1).trans (get_last _ _);have h2':Deep.rep ⟨E3,c3⟩ mv ms K2:=Deep.frame h2 fun k hk=>(a2 k fun x=> hd k x hk).trans (pre _ k (Deep.bd h2 hk));obtain⟨⟨E4,c4⟩,w2,b1,b2,b3⟩:=d21 gt ⟨E3,c3⟩ h2';simp only at b2 b3;have h1':Deep.rep ⟨E4,c4⟩ dv q.1 K1:=Deep.frame a1 fun k hk=> b2 k (hd k hk);simp only[simprocAttr,R1,b20,hl_0,h0_0,h1_0,get_last,callM_plain_eq,w1,m1,w2];refine And.intro (fun _=> trivial) ⟨?_,h1',b1,fun k hk x y=>(b2 k y).trans ((a2 k x).trans (pre _ k hk)),by simp at a3; omega⟩;simp only[simprocAttr,R1,fn_out,p20,Rs.ev,mapO,hl_0]
theorem dm20{x:GComplex}{k:Int}{r:GComplex×Int}(hF:FM20 x k=some r)(h:Heap){v:V}{K:Ks}(hr:Deep.rep h v x K):∃h',res A 20 [v,V.int .i64 k] h=some (V.int .i64 r.2,h')∧Deep.rep h' v r.1 K∧(∀k,k < h.ents.length→¬K k→h'.ents[k]? =h.ents[k]?)∧h.ents.length≤h'.ents.length:=by
 obtain⟨vs,rfl,r0⟩:=hr;obtain⟨dv,mv,K1,K2,rfl,h1,h2,h3,h4⟩:=rec3_un r0;unfold FM20 at hF;obtain⟨t,gt,hF⟩:=bS hF;cases hF;obtain⟨h',w,q1,q2,q3,q4⟩:=d20 (p:=x.Prime) gt h h1 h2 h3;exact⟨h',w,⟨_,rfl,(rec3 q1 q2 h3).to h4⟩,fun k hk nk=> q3 k hk (fun y=> nk ((h4 k).2 (.inl y))) (fun y=> nk ((h4 k).2 (.inr y))),q4⟩
def F56(a0:Int)(a1:Int)(a2:Int):Option Bool:=
 if a1≤a0 then
  some (decide (a0≤a2))
 else
  some false
theorem s56(a0:Int)(a1:Int)(a2:Int){r:Bool}(hF:F56 a0 a1 a2=some r):ans A 56 [V.int .i64 a0,V.int .i64 a1,V.int .i64 a2]=some (Enc.enc r):=by
 refine ans_of (f:=p56) rfl rfl rfl fun e hl he=>?_;have h0_0:e.at 0=V.int .i64 a0:=he 0 _ rfl;have h1_0:e.at 1=V.int .i64 a1:=he 1 _ rfl;have h2_0:e.at 2=V.int .i64 a2:=he 2 _ rfl;have hl_0:e.length=15:=hl;clear he hl;have h_0:=And.intro hl_0 (And.intro h0_0 (And.intro h1_0 h2_0));show W A b56 e ⟨[],0⟩ _;unfold F56 at hF;by_cases c1:a1≤a0
 ·rw[if_pos c1]at hF
  cases hF;simp only[simprocAttr,R0,b56,h_0,eq_true c1];exact fin_ret (by simp only[simprocAttr,R0,fn_out,p56,Rs.ev,take_len_self,h_0,eq_true c1])
 ·rw[if_neg c1]at hF
  cases hF;simp only[simprocAttr,R0,b56,h_0,eq_false c1];exact fin_ret (by simp only[simprocAttr,R0,fn_out,p56,Rs.ev,take_len_self,h_0,eq_false c1])
def F67(a0:Int):Option Bool:=
 if a0=2 then
  some true
 else
  if a0=3 then
   some true
  else
   if a0=5 then
    some true
   else
    some (decide (a0=7))
theorem s67(a0:Int){r:Bool}(hF:F67 a0=some r):ans A 67 [V.int .i64 a0]=some (Enc.enc r):=by
 refine ans_of (f:=p67) rfl rfl rfl fun e hl he=>?_;have h0_0:e.at 0=V.int .i64 a0:=he 0 _ rfl;have hl_0:e.length=17:=hl;clear he hl;have h_0:=And.intro hl_0 h0_0;show W A b67 e ⟨[],0⟩ _;unfold F67 at hF;by_cases c1:a0=2
 ·rw[if_pos c1]at hF
  cases hF;simp only[simprocAttr,R0,b67,h_0,eq_true c1];exact fin_ret (by simp only[simprocAttr,R0,fn_out,p67,Rs.ev,take_len_self,h_0,eq_true c1])
 ·rw[if_neg c1]at hF
  by_cases c2:a0=3
  ·rw[if_pos c2]at hF
   cases hF;simp only[simprocAttr,R0,b67,h_0,eq_false c1,eq_true c2];exact fin_ret (by simp only[simprocAttr,R0,fn_out,p67,Rs.ev,take_len_self,h_0,eq_false c1,eq_true c2])
  ·rw[if_neg c2]at hF
   by_cases c3:a0=5
   ·rw[if_pos c3]at hF
    cases hF;simp only[simprocAttr,R0,b67,h_0,eq_false c1,eq_false c2,eq_true c3];exact fin_ret (by simp only[simprocAttr,R0,fn_out,p67,Rs.ev,take_len_self,h_0,eq_false c1,eq_false c2,eq_true c3])
   ·rw[if_neg c3]at hF
    cases hF;simp only[simprocAttr,R0,b67,h_0,eq_false c1,eq_false c2,eq_false c3];exact fin_ret (by simp only[simprocAttr,R0,fn_out,p67,Rs.ev,take_len_self,h_0,eq_false c1,eq_false c2,eq_false c3])
def F115_1_B(a0:List Int)(f1:Int→Option Bool)(v8_1:Int)(s:Unit):Option ((Unit)⊕((Unit)⊕Int)):=
 (getI a0 v8_1).bind fun x4=>
(f1 x4).bind fun x6=>
if x6=true then
 some (.inr (.inr v8_1))
else
 some (.inl ())
def F115_1_D(a0:List Int)(f1:Int→Option Bool)(v8_1:Int)(s:Unit):Option ((Unit)⊕Int):=
 some (.inl ())
def F115(a0:List Int)(f1:Int→Option Bool):Option Int:=
 (forR 0 (a0.length:Int) (F115_1_B a0 f1) (F115_1_D a0 f1) ()).bind fun t8=> match t8 with
  | .inl _=>
   some (-1)
  | .inr r9=> some r9
def I115_1(a0:List Int)(f1:Int→Option Bool)(vf1:V)(v8_1:Int)(s:Unit)(e:Env)(h:Heap):Prop:=
 ∃k2:Nat,h=⟨[],k2⟩∧e.length=19∧e.at 0=V.isl (a0.map Enc.enc)∧e.at 1=vf1∧e.at 7=V.int .i64 (a0.length:Int)∧e.at 8=V.int .i64 v8_1
def P115_1(a0:List Int)(f1:Int→Option Bool)(vf1:V)(t:(Unit)⊕Int)(x:Ex)(e:Env)(h:Heap):Prop:=
 match t with
 | .inl _=> x= .normal∧∃k2:Nat,h=⟨[],k2⟩∧e.length=19
 | .inr r=> x= .ret∧Fin p115 (Enc.enc r) .ret e h
theorem l115_1(a0:List Int)(f1:Int→Option Bool)(vf1:V)(hf1:Clo1 A vf1 f1){lo:Int}{s:Unit}{t:(Unit)⊕Int}(hF:forR lo (a0.length:Int) (F115_1_B a0 f1) (F115_1_D a0 f1) s=some t){e:Env}{h:Heap}(hI:I115_1 a0 f1 vf1 lo s e h):W A c115_1 e h (P115_1 a0 f1 vf1 t):=by
 obtain⟨g_f1,fs_f1,cs_f1,hv_f1,hc_f1⟩:=id hf1;show W A (.block 0 (.loop false b115_1)) e h _;rw[W_block];refine W_forR hF 0 (by obtain⟨_,rfl,_⟩:=hI; rfl) (I115_1 a0 f1 vf1) hI ?_ ?_
 ·rintro v8_1 _ e h ⟨k2,rfl,h_1⟩ hlt hw o ho
  unfold F115_1_B at ho;obtain⟨x4,gx4,ho⟩:=bS ho;obtain⟨w5a,w5b⟩:=getI_w gx4;obtain⟨x6,gx6,ho⟩:=bS ho;have w7a:∀h,mapO (frz h 16) (fs_f1++[V.int .i64 x4]++cs_f1)=some (fs_f1++[V.int .i64 x4]++cs_f1):=fun h=> hc_f1.zf x4 h;have w7b:List.all (fs_f1++[V.int .i64 x4]++cs_f1) (refless 16)=true:=hc_f1.zr x4;have w7c:ans A g_f1 (fs_f1++[V.int .i64 x4]++cs_f1)=some (V.bool x6):=hc_f1.ka x4 _ gx6;cases x6 with
  |true=>
   rw[if_pos rfl]at ho;cases ho;simp only[simprocAttr,R0,b115_1,h_1,eq_true hlt,hw,w5a,w5b,hv_f1,w7a,w7b,w7c];intro ht; subst ht;simp only[simprocAttr,RR,RB];exact And.intro rfl (fin_ret (by simp only[simprocAttr,R0,fn_out,p115,Rs.ev,take_len_self,h_1,eq_true hlt,hw,w5a,w5b,hv_f1,w7a,w7b,w7c]))
  |false=>
   rw[if_neg Bool.false_ne_true]at ho;cases ho;simp only[simprocAttr,R0,b115_1,h_1,eq_true hlt,hw,w5a,w5b,hv_f1,w7a,w7b,w7c];refine And.intro rfl (Exists.intro _ (And.intro rfl ?_));simp only[simprocAttr,R0,h_1,eq_true hlt,hw,w5a,w5b,hv_f1,w7a,w7b,w7c]
 ·rintro v8_1 _ e h ⟨k2,rfl,h_1⟩ hge t1 ho
  unfold F115_1_D at ho;cases ho;simp only[simprocAttr,R0,b115_1,h_1,eq_false hge];intro ht; subst ht;refine And.intro rfl (Exists.intro _ (And.intro rfl ?_));simp only[simprocAttr,R0,h_1,eq_false hge]
theorem s115(a0:List Int)(f1:Int→Option Bool){vf1:V}(hf1:Clo1 A vf1 f1){r:Int}(hF:F115 a0 f1=some r):ans A 115 [V.isl (a0.map Enc.enc),vf1]=some (Enc.enc r):=by
 refine ans_of (f:=p115) rfl rfl rfl fun e hl he=>?_;have h0_0:e.at 0=V.isl (a0.map Enc.enc):=he 0 _ rfl;have h1_0:e.at 1=vf1:=he 1 _ rfl;obtain⟨g_f1,fs_f1,cs_f1,hv_f1,hc_f1⟩:=id hf1;have hl_0:e.length=19:=hl;clear he hl;have h_0:=And.intro hl_0 (And.intro h0_0 h1_0);show W A b115 e ⟨[],0⟩ _;unfold F115 at hF;obtain⟨t8,gt8,hF⟩:=bS hF;rcases t8 with _|r9
 ·dsimp only at hF
  simp only[simprocAttr,R0,b115,h_0];refine W.mono (l115_1 a0 f1 vf1 hf1 gt8 (Exists.intro _ (And.intro rfl ?_))) ?_
  ·simp only[simprocAttr,R0,h_0]
  rintro _ e _ ⟨rfl,k2,rfl,hl_3⟩;cases hF;simp only[simprocAttr,R0,hl_3];exact fin_ret (by simp only[simprocAttr,R0,fn_out,p115,Rs.ev,take_len_self,hl_3])
 ·dsimp only at hF
  cases hF;simp only[simprocAttr,R0,b115,h_0];refine W.mono (l115_1 a0 f1 vf1 hf1 gt8 (Exists.intro _ (And.intro rfl ?_))) ?_
  ·simp only[simprocAttr,R0,h_0]
  rintro _ e h ⟨rfl,hq⟩;simp only[simprocAttr,RR,RB];exact hq
def F82(a0:List Int)(f1:Int→Option Bool):Option Bool:=
 (F115 a0 f1).bind fun x1=>
 some (decide (0≤x1))
theorem s82(a0:List Int)(f1:Int→Option Bool){vf1:V}(hf1:Clo1 A vf1 f1){r:Bool}(hF:F82 a0 f1=some r):ans A 82 [V.isl (a0.map Enc.enc),vf1]=some (Enc.enc r):=by
 refine ans_of (f:=p82) rfl rfl rfl fun e hl he=>?_;have h0_0:e.at 0=V.isl (a0.map Enc.enc):=he 0 _ rfl;have h1_0:e.at 1=vf1:=he 1 _ rfl;obtain⟨g_f1,fs_f1,cs_f1,hv_f1,hc_f1⟩:=id hf1;have hl_0:e.length=9:=hl;clear he hl;show W A b82 e ⟨[],0⟩ _;unfold F82 at hF;obtain⟨x1,gx1,hF⟩:=bS hF;have w2:ans A 115 [V.isl (a0.map Enc.enc),vf1]=some (V.int .i64 x1):=s115 a0 f1 hf1 gx1;cases hF;simp only[simprocAttr,R0,b82,hl_0,h0_0,h1_0,hf1.fz,hf1.rl,w2];exact fin_ret (by simp only[simprocAttr,R0,fn_out,p82,Rs.ev,take_len_self,hl_0,h0_0,h1_0,hf1.fz,hf1.rl,w2])
def F73(a0:List Int):Option Int:=
 some (a0.length:Int)
theorem s73(a0:List Int){r:Int}(hF:F73 a0=some r):ans A 73 [V.isl (a0.map Enc.enc)]=some (Enc.enc r):=by
 refine ans_of (f:=p73) rfl rfl rfl fun e hl he=>?_;have h0_0:e.at 0=V.isl (a0.map Enc.enc):=he 0 _ rfl;have hl_0:e.length=5:=hl;clear he hl;show W A b73 e ⟨[],0⟩ _;unfold F73 at hF;cases hF;simp only[simprocAttr,R0,b73,hl_0,h0_0];exact fin_ret (by simp only[simprocAttr,R0,fn_out,p73,Rs.ev,take_len_self,hl_0,h0_0])
def F86(a0:GComplex):Option Int:=
 (chk ((a0.Dims.length:Int) - 1)).bind fun x3=>
 some x3
theorem s86(a0:GComplex){r:Int}(hF:F86 a0=some r):ans A 86 [(eC a0)]=some (Enc.enc r):=by
 refine ans_of (f:=p86) rfl rfl rfl fun e hl he=>?_;have h0_0:e.at 0=(eC a0):=he 0 _ rfl;have hl_0:e.length=7:=hl;clear he hl;show W A b86 e ⟨[],0⟩ _;unfold F86 at hF;have w2:ans A 73 [V.isl (a0.Dims.map Enc.enc)]=some (V.int .i64 (a0.Dims.length:Int)):=s73 a0.Dims rfl;obtain⟨x3,gx3,hF⟩:=bS hF;have wx3:=chk_w gx3;cases hF;simp only[simprocAttr,R0,b86,hl_0,h0_0,w2,wx3];exact fin_ret (by simp only[simprocAttr,R0,fn_out,p86,Rs.ev,take_len_self,hl_0,h0_0,w2,wx3])
def F87(a0:List (List (List Int))):Option Int:=
 some (a0.length:Int)
theorem s87(a0:List (List (List Int))){r:Int}(hF:F87 a0=some r):ans A 87 [V.isl (a0.map Enc.enc)]=some (Enc.enc r):=by
 refine ans_of (f:=p87) rfl rfl rfl fun e hl he=>?_;have h0_0:e.at 0=V.isl (a0.map Enc.enc):=he 0 _ rfl;have hl_0:e.length=5:=hl;clear he hl;show W A b87 e ⟨[],0⟩ _;unfold F87 at hF;cases hF;simp only[simprocAttr,R0,b87,hl_0,h0_0];exact fin_ret (by simp only[simprocAttr,R0,fn_out,p87,Rs.ev,take_len_self,hl_0,h0_0])
def F88(a0:Int):Option Bool:=
 (F56 a0 0 8).bind fun x1=>
 some (!x1)
theorem s88(a0:Int){r:Bool}(hF:F88 a0=some r):ans A 88 [V.int .i64 a0]=some (Enc.enc r):=by
 refine ans_of (f:=p88) rfl rfl rfl fun e hl he=>?_;have h0_0:e.at 0=V.int .i64 a0:=he 0 _ rfl;have hl_0:e.length=6:=hl;clear he hl;show W A b88 e ⟨[],0⟩ _;unfold F88 at hF;obtain⟨x1,gx1,hF⟩:=bS hF;have w2:ans A 56 [V.int .i64 a0,V.int .i64 0,V.int .i64 8]=some (V.bool x1):=s56 a0 0 8 gx1;cases hF;simp only[simprocAttr,R0,b88,hl_0,h0_0,w2];exact fin_ret (by simp only[simprocAttr,R0,fn_out,p88,Rs.ev,take_len_self,hl_0,h0_0,w2])
def F89(a0:List (List Int)):Option Int:=
 some (a0.length:Int)
theorem s89(a0:List (List Int)){r:Int}(hF:F89 a0=some r):ans A 89 [V.isl (a0.map Enc.enc)]=some (Enc.enc r):=by
 refine ans_of (f:=p89) rfl rfl rfl fun e hl he=>?_;have h0_0:e.at 0=V.isl (a0.map Enc.enc):=he 0 _ rfl;have hl_0:e.length=5:=hl;clear he hl;show W A b89 e ⟨[],0⟩ _;unfold F89 at hF;cases hF;simp only[simprocAttr,R0,b89,hl_0,h0_0];exact fin_ret (by simp only[simprocAttr,R0,fn_out,p89,Rs.ev,take_len_self,hl_0,h0_0])
def F130(a0:Int)(d0:Int):Option Bool:=
 (chk (d0 - 1)).bind fun x1=>
 (F56 a0 0 x1).bind fun x2=>
 some (!x2)
theorem s130(a0:Int)(d0:Int){r:Bool}(hF:F130 a0 d0=some r):ans A 130 [V.int .i64 a0,V.iptr [V.int .i64 d0]]=some (Enc.enc r):=by
 refine ans_of (f:=p130) rfl rfl rfl fun e hl he=>?_;have h0_0:e.at 0=V.int .i64 a0:=he 0 _ rfl;have h1_0:e.at 1=V.iptr [V.int .i64 d0]:=he 1 _ rfl;have hl_0:e.length=9:=hl;clear he hl;show W A b130 e ⟨[],0⟩ _;unfold F130 at hF;obtain⟨x1,gx1,hF⟩:=bS hF;have wx1:=chk_w gx1;obtain⟨x2,gx2,hF⟩:=bS hF;have w3:ans A 56 [V.int .i64 a0,V.int .i64 0,V.int .i64 x1]=some (V.bool x2):=s56 a0 0 x1 gx2;cases hF;simp only[simprocAttr,R0,b130,hl_0,h0_0,h1_0,wx1,w3];exact fin_ret (by simp only[simprocAttr,R0,fn_out,p130,Rs.ev,take_len_self,hl_0,h0_0,h1_0,wx1,w3])
def F129(a0:Int)(a1:Int)(a2:List Int):Option Bool:=
 if(a2.length:Int)=a1 then
  (F82 a2 (fun x=> F130 x a0)).bind fun x4=>
  some (!x4)
 else
  some false
theorem s129(a0:Int)(a1:Int)(a2:List Int){r:Bool}(hF:F129 a0 a1 a2=some r):ans A 129 [V.int .i64 a0,V.int .i64 a1,V.isl (a2.map Enc.enc)]=some (Enc.enc r):=by
 refine ans_of (f:=p129) rfl rfl rfl fun e hl he=>?_;have h0_0:e.at 0=V.int .i64 a0:=he 0 _ rfl;have h1_0:e.at 1=V.int .i64 a1:=he 1 _ rfl;have h2_0:e.at 2=V.isl (a2.map Enc.enc):=he 2 _ rfl;have hl_0:e.length=17:=hl;clear he hl;have h_0:=And.intro hl_0 (And.intro h0_0 (And.intro h1_0 h2_0));show W A b129 e ⟨[],0⟩ _;unfold F129 at hF;have w2:ans A 73 [V.isl (a2.map Enc.enc)]=some (V.int .i64 (a2.length:Int)):=s73 a2 rfl;by_cases c3:(a2.length:Int)=a1
 ·rw[if_pos c3]at hF
  obtain⟨x4,gx4,hF⟩:=bS hF;have w5:ans A 82 [V.isl (a2.map Enc.enc),V.fn 130 [] [V.iptr [V.int .i64 a0]]]=some (V.bool x4):=s82 a2 (fun x=> F130 x a0) (Clo1.of (by intro h f; simp only[RZ,mapO]) (by intro h f; simp only[RZ,mapO]) (by intro f; simp only[RZ,RB]) (by intro f; simp only[RZ,RB]) (fun x _ hr=> s130 x a0 hr)) gx4;cases hF;simp only[simprocAttr,R0,b129,h_0,w2,eq_true c3,w5];exact fin_ret (by simp only[simprocAttr,R0,fn_out,p129,Rs.ev,take_len_self,h_0,w2,eq_true c3,w5])
 ·rw[if_neg c3]at hF
  cases hF;simp only[simprocAttr,R0,b129,h_0,w2,eq_false c3];exact fin_ret (by simp only[simprocAttr,R0,fn_out,p129,Rs.ev,take_len_self,h_0,w2,eq_false c3])
def F116(a0:List Int)(d0:Int)(d1:Int):Option Bool:=
 (F129 d0 d1 a0).bind fun x1=>
 some (!x1)
theorem s116(a0:List Int)(d0:Int)(d1:Int){r:Bool}(hF:F116 a0 d0 d1=some r):ans A 116 [V.isl (a0.map Enc.enc),V.iptr [V.int .i64 d0],V.iptr [V.int .i64 d1]]=some (Enc.enc r):=by
 refine ans_of (f:=p116) rfl rfl rfl fun e hl he=>?_;have h0_0:e.at 0=V.isl (a0.map Enc.enc):=he 0 _ rfl;have h1_0:e.at 1=V.iptr [V.int .i64 d0]:=he 1 _ rfl;have h2_0:e.at 2=V.iptr [V.int .i64 d1]:=he 2 _ rfl;have hl_0:e.length=10:=hl;clear he hl;show W A b116 e ⟨[],0⟩ _;unfold F116 at hF;obtain⟨x1,gx1,hF⟩:=bS hF;have w2:ans A 129 [V.int .i64 d0,V.int .i64 d1,V.isl (a0.map Enc.enc)]=some (V.bool x1):=s129 d0 d1 a0 gx1;cases hF;simp only[simprocAttr,R0,b116,hl_0,h0_0,h1_0,h2_0,w2];exact fin_ret (by simp only[simprocAttr,R0,fn_out,p116,Rs.ev,take_len_self,hl_0,h0_0,h1_0,h2_0,w2])
def F128_1_B(a0:List (List Int))(f1:(List Int)→Option Bool)(v8_1:Int)(s:Unit):Option ((Unit)⊕((Unit)⊕Int)):=
 (getI a0 v8_1).bind fun x4=>
(f1 x4).bind fun x6=>
if x6=true then
 some (.inr (.inr v8_1))
else
 some (.inl ())
def F128_1_D(a0:List (List Int))(f1:(List Int)→Option Bool)(v8_1:Int)(s:Unit):Option ((Unit)⊕Int):=
 some (.inl ())
def F128(a0:List (List Int))(f1:(List Int)→Option Bool):Option Int:=
 (forR 0 (a0.length:Int) (F128_1_B a0 f1) (F128_1_D a0 f1) ()).bind fun t8=> match t8 with
  | .inl _=>
   some (-1)
  | .inr r9=> some r9
def I128_1(a0:List (List Int))(f1:(List Int)→Option Bool)(vf1:V)(v8_1:Int)(s:Unit)(e:Env)(h:Heap):Prop:=
 ∃k2:Nat,h=⟨[],k2⟩∧e.length=19∧e.at 0=V.isl (a0.map Enc.enc)∧e.at 1=vf1∧e.at 7=V.int .i64 (a0.length:Int)∧e.at 8=V.int .i64 v8_1
def P128_1(a0:List (List Int))(f1:(List Int)→Option Bool)(vf1:V)(t:(Unit)⊕Int)(x:Ex)(e:Env)(h:Heap):Prop:=
 match t with
 | .inl _=> x= .normal∧∃k2:Nat,h=⟨[],k2⟩∧e.length=19
 | .inr r=> x= .ret∧Fin p128 (Enc.enc r) .ret e h
theorem l128_1(a0:List (List Int))(f1:(List Int)→Option Bool)(vf1:V)(hf1:Clo1 A vf1 f1){lo:Int}{s:Unit}{t:(Unit)⊕Int}(hF:forR lo (a0.length:Int) (F128_1_B a0 f1) (F128_1_D a0 f1) s=some t){e:Env}{h:Heap}(hI:I128_1 a0 f1 vf1 lo s e h):W A c128_1 e h (P128_1 a0 f1 vf1 t):=by
 obtain⟨g_f1,fs_f1,cs_f1,hv_f1,hc_f1⟩:=id hf1;show W A (.block 0 (.loop false b128_1)) e h _;rw[W_block];refine W_forR hF 0 (by obtain⟨_,rfl,_⟩:=hI; rfl) (I128_1 a0 f1 vf1) hI ?_ ?_
 ·rintro v8_1 _ e h ⟨k2,rfl,h_1⟩ hlt hw o ho
  unfold F128_1_B at ho;obtain⟨x4,gx4,ho⟩:=bS ho;obtain⟨w5a,w5b⟩:=getI_w gx4;obtain⟨x6,gx6,ho⟩:=bS ho;have w7a:∀h,mapO (frz h 16) (fs_f1++[V.isl (x4.map Enc.enc)]++cs_f1)=some (fs_f1++[V.isl (x4.map Enc.enc)]++cs_f1):=fun h=> hc_f1.zf x4 h;have w7b:List.all (fs_f1++[V.isl (x4.map Enc.enc)]++cs_f1) (refless 16)=true:=hc_f1.zr x4;have w7c:ans A g_f1 (fs_f1++[V.isl (x4.map Enc.enc)]++cs_f1)=some (V.bool x6):=hc_f1.ka x4 _ gx6;cases x6 with
  |true=>
   rw[if_pos rfl]at ho;cases ho;simp only[simprocAttr,R0,b128_1,h_1,eq_true hlt,hw,w5a,w5b,hv_f1,w7a,w7b,w7c];intro ht; subst ht;simp only[simprocAttr,RR,RB];exact And.intro rfl (fin_ret (by simp only[simprocAttr,R0,fn_out,p128,Rs.ev,take_len_self,h_1,eq_true hlt,hw,w5a,w5b,hv_f1,w7a,w7b,w7c]))
  |false=>
   rw[if_neg Bool.false_ne_true]at ho;cases ho;simp only[simprocAttr,R0,b128_1,h_1,eq_true hlt,hw,w5a,w5b,hv_f1,w7a,w7b,w7c];refine And.intro rfl (Exists.intro _ (And.intro rfl ?_));simp only[simprocAttr,R0,h_1,eq_true hlt,hw,w5a,w5b,hv_f1,w7a,w7b,w7c]
 ·rintro v8_1 _ e h ⟨k2,rfl,h_1⟩ hge t1 ho
  unfold F128_1_D at ho;cases ho;simp only[simprocAttr,R0,b128_1,h_1,eq_false hge];intro ht; subst ht;refine And.intro rfl (Exists.intro _ (And.intro rfl ?_));simp only[simprocAttr,R0,h_1,eq_false hge]
theorem s128(a0:List (List Int))(f1:(List Int)→Option Bool){vf1:V}(hf1:Clo1 A vf1 f1){r:Int}(hF:F128 a0 f1=some r):ans A 128 [V.isl (a0.map Enc.enc),vf1]=some (Enc.enc r):=by
 refine ans_of (f:=p128) rfl rfl rfl fun e hl he=>?_;have h0_0:e.at 0=V.isl (a0.map Enc.enc):=he 0 _ rfl;have h1_0:e.at 1=vf1:=he 1 _ rfl;obtain⟨g_f1,fs_f1,cs_f1,hv_f1,hc_f1⟩:=id hf1;have hl_0:e.length=19:=hl;clear he hl;have h_0:=And.intro hl_0 (And.intro h0_0 h1_0);show W A b128 e ⟨[],0⟩ _;unfold F128 at hF;obtain⟨t8,gt8,hF⟩:=bS hF;rcases t8 with _|r9
 ·dsimp only at hF
  simp only[simprocAttr,R0,b128,h_0];refine W.mono (l128_1 a0 f1 vf1 hf1 gt8 (Exists.intro _ (And.intro rfl ?_))) ?_
  ·simp only[simprocAttr,R0,h_0]
  rintro _ e _ ⟨rfl,k2,rfl,hl_3⟩;cases hF;simp only[simprocAttr,R0,hl_3];exact fin_ret (by simp only[simprocAttr,R0,fn_out,p128,Rs.ev,take_len_self,hl_3])
 ·dsimp only at hF
  cases hF;simp only[simprocAttr,R0,b128,h_0];refine W.mono (l128_1 a0 f1 vf1 hf1 gt8 (Exists.intro _ (And.intro rfl ?_))) ?_
  ·simp only[simprocAttr,R0,h_0]
  rintro _ e h ⟨rfl,hq⟩;simp only[simprocAttr,RR,RB];exact hq
def F117(a0:List (List Int))(f1:(List Int)→Option Bool):Option Bool:=
 (F128 a0 f1).bind fun x1=>
 some (decide (0≤x1))
theorem s117(a0:List (List Int))(f1:(List Int)→Option Bool){vf1:V}(hf1:Clo1 A vf1 f1){r:Bool}(hF:F117 a0 f1=some r):ans A 117 [V.isl (a0.map Enc.enc),vf1]=some (Enc.enc r):=by
 refine ans_of (f:=p117) rfl rfl rfl fun e hl he=>?_;have h0_0:e.at 0=V.isl (a0.map Enc.enc):=he 0 _ rfl;have h1_0:e.at 1=vf1:=he 1 _ rfl;obtain⟨g_f1,fs_f1,cs_f1,hv_f1,hc_f1⟩:=id hf1;have hl_0:e.length=9:=hl;clear he hl;show W A b117 e ⟨[],0⟩ _;unfold F117 at hF;obtain⟨x1,gx1,hF⟩:=bS hF;have w2:ans A 128 [V.isl (a0.map Enc.enc),vf1]=some (V.int .i64 x1):=s128 a0 f1 hf1 gx1;cases hF;simp only[simprocAttr,R0,b117,hl_0,h0_0,h1_0,hf1.fz,hf1.rl,w2];exact fin_ret (by simp only[simprocAttr,R0,fn_out,p117,Rs.ev,take_len_self,hl_0,h0_0,h1_0,hf1.fz,hf1.rl,w2])
def F90(a0:Int)(a1:Int)(a2:List (List Int)):Option Bool:=
 (F117 a2 (fun x=> F116 x a0 a1)).bind fun x1=>
 some (!x1)
theorem s90(a0:Int)(a1:Int)(a2:List (List Int)){r:Bool}(hF:F90 a0 a1 a2=some r):ans A 90 [V.int .i64 a0,V.int .i64 a1,V.isl (a2.map Enc.enc)]=some (Enc.enc r):=by
 refine ans_of (f:=p90) rfl rfl rfl fun e hl he=>?_;have h0_0:e.at 0=V.int .i64 a0:=he 0 _ rfl;have h1_0:e.at 1=V.int .i64 a1:=he 1 _ rfl;have h2_0:e.at 2=V.isl (a2.map Enc.enc):=he 2 _ rfl;have hl_0:e.length=11:=hl;clear he hl;show W A b90 e ⟨[],0⟩ _;unfold F90 at hF;obtain⟨x1,gx1,hF⟩:=bS hF;have w2:ans A 117 [V.isl (a2.map Enc.enc),V.fn 116 [] [V.iptr [V.int .i64 a0],V.iptr [V.int .i64 a1]]]=some (V.bool x1):=s117 a2 (fun x=> F116 x a0 a1) (Clo1.of (by intro h f; simp only[RZ,mapO]) (by intro h f; simp only[RZ,mapO]) (by intro f; simp only[RZ,RB]) (by intro f; simp only[RZ,RB]) (fun x _ hr=> s116 x a0 a1 hr)) gx1;cases hF;simp only[simprocAttr,R0,b90,hl_0,h0_0,h1_0,h2_0,w2];exact fin_ret (by simp only[simprocAttr,R0,fn_out,p90,Rs.ev,take_len_self,hl_0,h0_0,h1_0,h2_0,w2])
def F119_2_B(a0:Int)(a2:List Int)(a3:List (List Int))(v18_1:Int)(x7:Int)(x9:List Int)(v28_2:Int)(o0_2:(List Int)):Option (((List Int))⊕((List Int))):=
 (getI x9 v28_2).bind fun x15=>
(getI o0_2 v28_2).bind fun x17=>
(chk (x7*x15)).bind fun x19=>
(chk (x17+x19)).bind fun x20=>
(remI x20 a0).bind fun x21=>
(setI o0_2 v28_2 x21).bind fun l23=>
some (.inl l23)
def F119_2_D(a0:Int)(a2:List Int)(a3:List (List Int))(v18_1:Int)(x7:Int)(x9:List Int)(v28_2:Int)(o0_2:(List Int)):Option ((List Int)):=
 some o0_2
def F119_1_B(a0:Int)(a2:List Int)(a3:List (List Int))(v18_1:Int)(o0_1:(List Int)):Option (((List Int))⊕((List Int))):=
 (getI a2 v18_1).bind fun x7=>
(getI a3 v18_1).bind fun x9=>
(forR 0 (x9.length:Int) (F119_2_B a0 a2 a3 v18_1 x7 x9) (F119_2_D a0 a2 a3 v18_1 x7 x9) o0_1).bind fun zo0_2=>
some (.inl zo0_2)
def F119_1_D(a0:Int)(a2:List Int)(a3:List (List Int))(v18_1:Int)(o0_1:(List Int)):Option ((List Int)):=
 some o0_1
def F119(a0:Int)(a1:Int)(a2:List Int)(a3:List (List Int)):Option (List Int):=
 (mkL 8 a1 0).bind fun l1=>
 (forR 0 (a2.length:Int) (F119_1_B a0 a2 a3) (F119_1_D a0 a2 a3) l1).bind fun zo0_1=>
 some zo0_1
def I119_2(a0:Int)(a2:List Int)(a3:List (List Int))(v18_1:Int)(x7:Int)(x9:List Int)(v28_2:Int)(o0_2:(List Int))(e:Env)(h:Heap):Prop:=
 ∃u12 k13:Nat,h=⟨[(u12,some (o0_2.map Enc.enc))],k13⟩∧e.length=49∧e.at 0=V.int .i64 a0∧e.at 3=V.isl (a3.map Enc.enc)∧e.at 9=V.sl 0 u12 0 o0_2.length 1∧e.at 11=V.int .i64 x7∧e.at 16=V.isl (a2.map Enc.enc)∧e.at 17=V.int .i64 (a2.length:Int)∧e.at 18=V.int .i64 v18_1∧e.at 26=V.isl (x9.map Enc.enc)∧e.at 27=V.int .i64 (x9.length:Int)∧e.at 28=V.int .i64 v28_2
def P119_2(a0:Int)(a2:List Int)(a3:List (List Int))(v18_1:Int)(x7:Int)(x9:List Int)(zo0_2:(List Int))(x:Ex)(e:Env)(h:Heap):Prop:=
 x= .normal∧∃u12 k13:Nat,h=⟨[(u12,some (zo0_2.map Enc.enc))],k13⟩∧e.length=49∧e.at 0=V.int .i64 a0∧e.at 3=V.isl (a3.map Enc.enc)∧e.at 9=V.sl 0 u12 0 zo0_2.length 1∧e.at 16=V.isl (a2.map Enc.enc)∧e.at 17=V.int .i64 (a2.length:Int)∧e.at 18=V.int .i64 v18_1
theorem l119_2(a0:Int)(a2:List Int)(a3:List (List Int))(v18_1:Int)(x7:Int)(x9:List Int){lo:Int}{s:(List Int)}{t:(List Int)}(hF:forR lo (x9.length:Int) (F119_2_B a0 a2 a3 v18_1 x7 x9) (F119_2_D a0 a2 a3 v18_1 x7 x9) s=some t){e:Env}{h:Heap}(hI:I119_2 a0 a2 a3 v18_1 x7 x9 lo s e h):W A c119_2 e h (P119_2 a0 a2 a3 v18_1 x7 x9 t):=by
 show W A (.block 2 (.loop false b119_2)) e h _;rw[W_block];refine W_forR hF 1 (by obtain⟨_,_,rfl,_⟩:=hI; rfl) (I119_2 a0 a2 a3 v18_1 x7 x9) hI ?_ ?_
 ·rintro v28_2 o0_2 e h ⟨u12,k13,rfl,h_11⟩ hlt hw o ho
  unfold F119_2_B at ho;obtain⟨x15,gx15,ho⟩:=bS ho;obtain⟨w16a,w16b⟩:=getI_w gx15;obtain⟨x17,gx17,ho⟩:=bS ho;obtain⟨w18a,w18b⟩:=getI_w gx17;have w18c:=getI_lt gx17;have w18d:List.drop (Int.toNat v28_2) (o0_2.map Enc.enc)=(V.int .i64 x17)::List.drop ((Int.toNat v28_2)+1) (o0_2.map Enc.enc):=drop_enc w18b;obtain⟨x19,gx19,ho⟩:=bS ho;have wx19:=chk_w gx19;obtain⟨x20,gx20,ho⟩:=bS ho;have wx20:=chk_w gx20;obtain⟨x21,gx21,ho⟩:=bS ho;obtain⟨w22a,w22b⟩:=rem_w gx21;obtain⟨l23,gl23,ho⟩:=bS ho;obtain⟨w24a,w24b,w24c,w24d,w24e⟩:=setI_w gl23;replace w24e:List.take (Int.toNat v28_2) (o0_2.map Enc.enc)++[V.int .i64 x21]++List.drop (Int.toNat v28_2+1) (o0_2.map Enc.enc)=List.map Enc.enc l23:=w24e;cases ho;simp only[simprocAttr,R0,b119_2,h_11,eq_true hlt,hw,w16a,w16b,w18a,w18b,w18c,w18d,wx19,wx20,eq_false w22a,w22b,w24a,w24b,w24c,w24e];refine And.intro rfl (Exists.intro _ (Exists.intro _ (And.intro rfl ?_)));simp only[simprocAttr,R0,h_11,eq_true hlt,hw,w16a,w16b,w18a,w18b,w18c,w18d,wx19,wx20,eq_false w22a,w22b,w24a,w24b,w24c,w24e,w24d]
 ·rintro v28_2 o0_2 e h ⟨u12,k13,rfl,h_11⟩ hge t1 ho
  unfold F119_2_D at ho;cases ho;simp only[simprocAttr,R0,b119_2,h_11,eq_false hge];intro ht; subst ht;refine And.intro rfl (Exists.intro _ (Exists.intro _ (And.intro rfl ?_)));simp only[simprocAttr,R0,h_11,eq_false hge]
def I119_1(a0:Int)(a2:List Int)(a3:List (List Int))(v18_1:Int)(o0_1:(List Int))(e:Env)(h:Heap):Prop:=
 ∃u4 k5:Nat,h=⟨[(u4,some (o0_1.map Enc.enc))],k5⟩∧e.length=49∧e.at 0=V.int .i64 a0∧e.at 3=V.isl (a3.map Enc.enc)∧e.at 9=V.sl 0 u4 0 o0_1.length 1∧e.at 16=V.isl (a2.map Enc.enc)∧e.at 17=V.int .i64 (a2.length:Int)∧e.at 18=V.int .i64 v18_1
def P119_1(a0:Int)(a2:List Int)(a3:List (List Int))(zo0_1:(List Int))(x:Ex)(e:Env)(h:Heap):Prop:=
 x= .normal∧∃u4 k5:Nat,h=⟨[(u4,some (zo0_1.map Enc.enc))],k5⟩∧e.length=49∧e.at 9=V.sl 0 u4 0 zo0_1.length 1
theorem l119_1(a0:Int)(a2:List Int)(a3:List (List Int)){lo:Int}{s:(List Int)}{t:(List Int)}(hF:forR lo (a2.length:Int) (F119_1_B a0 a2 a3) (F119_1_D a0 a2 a3) s=some t){e:Env}{h:Heap}(hI:I119_1 a0 a2 a3 lo s e h):W A c119_1 e h (P119_1 a0 a2 a3 t):=by
 show W A (.block 0 (.loop false b119_1)) e h _;rw[W_block];refine W_forR hF 1 (by obtain⟨_,_,rfl,_⟩:=hI; rfl) (I119_1 a0 a2 a3) hI ?_ ?_
 ·rintro v18_1 o0_1 e h ⟨u4,k5,rfl,h_3⟩ hlt hw o ho
  unfold F119_1_B at ho;obtain⟨x7,gx7,ho⟩:=bS ho;obtain⟨w8a,w8b⟩:=getI_w gx7;obtain⟨x9,gx9,ho⟩:=bS ho;obtain⟨w10a,w10b⟩:=getI_w gx9;obtain⟨zo0_2,gt25,ho⟩:=bS ho;simp only[simprocAttr,R0,b119_1,h_3,eq_true hlt,hw,w8a,w8b,w10a,w10b];refine W.mono (l119_2 a0 a2 a3 v18_1 x7 x9 gt25 (Exists.intro _ (Exists.intro _ (And.intro rfl ?_)))) ?_
  ·simp only[simprocAttr,R0,h_3,eq_true hlt,hw,w8a,w8b,w10a,w10b]
  rintro _ e _ ⟨rfl,u12,k13,rfl,h_14⟩;cases ho;simp only[simprocAttr,R0,h_14,eq_true hlt,hw];refine And.intro rfl (Exists.intro _ (Exists.intro _ (And.intro rfl ?_)));simp only[simprocAttr,R0,h_14,eq_true hlt,hw]
 ·rintro v18_1 o0_1 e h ⟨u4,k5,rfl,h_3⟩ hge t1 ho
  unfold F119_1_D at ho;cases ho;simp only[simprocAttr,R0,b119_1,h_3,eq_false hge];intro ht; subst ht;refine And.intro rfl (Exists.intro _ (Exists.intro _ (And.intro rfl ?_)));simp only[simprocAttr,R0,h_3,eq_false hge]
theorem s119(a0:Int)(a1:Int)(a2:List Int)(a3:List (List Int)){r:List Int}(hF:F119 a0 a1 a2 a3=some r):ans A 119 [V.int .i64 a0,V.int .i64 a1,V.isl (a2.map Enc.enc),V.isl (a3.map Enc.enc)]=some (Enc.enc r):=by
 refine ans_of (f:=p119) rfl rfl rfl fun e hl he=>?_;have h0_0:e.at 0=V.int .i64 a0:=he 0 _ rfl;have h1_0:e.at 1=V.int .i64 a1:=he 1 _ rfl;have h2_0:e.at 2=V.isl (a2.map Enc.enc):=he 2 _ rfl;have h3_0:e.at 3=V.isl (a3.map Enc.enc):=he 3 _ rfl;have hl_0:e.length=49:=hl;clear he hl;show W A b119 e ⟨[],0⟩ _;unfold F119 at hF;obtain⟨l1,gl1,hF⟩:=bS hF;obtain⟨w2a,w2b,w2c,w2d,w2e⟩:=mkL_w gl1;replace w2e:(List.replicate (Int.toNat a1) [V.int .i64 0]).flatten=List.map Enc.enc l1:=w2e;obtain⟨zo0_1,gt26,hF⟩:=bS hF;simp only[simprocAttr, -Int.reduceNatCast',R0,b119,hl_0,h0_0,h1_0,h2_0,h3_0,w2a,w2b,w2c,w2e];refine W.mono (l119_1 a0 a2 a3 gt26 (Exists.intro _ (Exists.intro _ (And.intro rfl ?_)))) ?_
 ·simp only[simprocAttr, -Int.reduceNatCast',R0,hl_0,h0_0,h1_0,h2_0,h3_0,w2a,w2b,w2c,w2e,w2d]
 rintro _ e _ ⟨rfl,u4,k5,rfl,hl_6,h9_6⟩;have hE:=Option.some.inj hF; subst hE;simp only[simprocAttr, -Int.reduceNatCast',R0,hl_6,h9_6];exact fin_ret (by simp only[simprocAttr, -Int.reduceNatCast',R0,fn_out,p119,Rs.ev,take_len_self,hl_6,h9_6,frzs (α:=Int) zo0_1,takes (α:=Int) zo0_1])
def F91(a0:GComplex)(a1:Int)(a2:List Int):Option (List Int):=
 if a1≤0 then
  some ([]:List Int)
 else
  (F86 a0).bind fun x2=>
  if x2 < a1 then
   some ([]:List Int)
  else
   (chk (a1 - 1)).bind fun x5=>
   (getI a0.Dims x5).bind fun x6=>
   (getI a0.Maps x5).bind fun x8=>
   (F119 a0.Prime x6 a2 x8).bind fun x10=>
   some x10
theorem s91(a0:GComplex)(a1:Int)(a2:List Int){r:List Int}(hF:F91 a0 a1 a2=some r):ans A 91 [(eC a0),V.int .i64 a1,V.isl (a2.map Enc.enc)]=some (Enc.enc r):=by
 refine ans_of (f:=p91) rfl rfl rfl fun e hl he=>?_;have h0_0:e.at 0=(eC a0):=he 0 _ rfl;have h1_0:e.at 1=V.int .i64 a1:=he 1 _ rfl;have h2_0:e.at 2=V.isl (a2.map Enc.enc):=he 2 _ rfl;have hl_0:e.length=31:=hl;clear he hl;have h_0:=And.intro hl_0 (And.intro h0_0 (And.intro h1_0 h2_0));show W A b91 e ⟨[],0⟩ _;unfold F91 at hF;by_cases c1:a1≤0
 ·rw[if_pos c1]at hF
  cases hF;simp only[simprocAttr,R0,b91,h_0,eq_true c1];exact fin_ret (by simp only[simprocAttr,R0,fn_out,p91,Rs.ev,take_len_self,h_0,eq_true c1])
 ·rw[if_neg c1]at hF
  obtain⟨x2,gx2,hF⟩:=bS hF;have w3:ans A 86 [(eC a0)]=some (V.int .i64 x2):=s86 a0 gx2;by_cases c4:x2 < a1
  ·rw[if_pos c4]at hF
   cases hF;simp only[simprocAttr,R0,b91,h_0,eq_false c1,w3,eq_true c4];exact fin_ret (by simp only[simprocAttr,R0,fn_out,p91,Rs.ev,take_len_self,h_0,eq_false c1,w3,eq_true c4])
  ·rw[if_neg c4]at hF
   obtain⟨x5,gx5,hF⟩:=bS hF;have wx5:=chk_w gx5;obtain⟨x6,gx6,hF⟩:=bS hF;obtain⟨w7a,w7b⟩:=getI_w gx6;obtain⟨x8,gx8,hF⟩:=bS hF;obtain⟨w9a,w9b⟩:=getI_w gx8;obtain⟨x10,gx10,hF⟩:=bS hF;have w11:ans A 119 [V.int .i64 a0.Prime,V.int .i64 x6,V.isl (a2.map Enc.enc),V.isl (x8.map Enc.enc)]=some (V.isl (x10.map Enc.enc)):=s119 a0.Prime x6 a2 x8 gx10;cases hF;simp only[simprocAttr,R0,b91,h_0,eq_false c1,w3,eq_false c4,wx5,w7a,w7b,w9a,w9b,w11];exact fin_ret (by simp only[simprocAttr,R0,fn_out,p91,Rs.ev,take_len_self,h_0,eq_false c1,w3,eq_false c4,wx5,w7a,w7b,w9a,w9b,w11])
def F118(a0:Int):Option Bool:=
 some (!(decide (a0=0)))
theorem s118(a0:Int){r:Bool}(hF:F118 a0=some r):ans A 118 [V.int .i64 a0]=some (Enc.enc r):=by
 refine ans_of (f:=p118) rfl rfl rfl fun e hl he=>?_;have h0_0:e.at 0=V.int .i64 a0:=he 0 _ rfl;have hl_0:e.length=5:=hl;clear he hl;show W A b118 e ⟨[],0⟩ _;unfold F118 at hF;cases hF;simp only[simprocAttr,R0,b118,hl_0,h0_0];exact fin_ret (by simp only[simprocAttr,R0,fn_out,p118,Rs.ev,take_len_self,hl_0,h0_0])
def F92(a0:List Int):Option Bool:=
 (F82 a0 (fun x=> F118 x)).bind fun x1=>
 some (!x1)
theorem s92(a0:List Int){r:Bool}(hF:F92 a0=some r):ans A 92 [V.isl (a0.map Enc.enc)]=some (Enc.enc r):=by
 refine ans_of (f:=p92) rfl rfl rfl fun e hl he=>?_;have h0_0:e.at 0=V.isl (a0.map Enc.enc):=he 0 _ rfl;have hl_0:e.length=6:=hl;clear he hl;show W A b92 e ⟨[],0⟩ _;unfold F92 at hF;obtain⟨x1,gx1,hF⟩:=bS hF;have w2:ans A 82 [V.isl (a0.map Enc.enc),V.fn 118 [] []]=some (V.bool x1):=s82 a0 (fun x=> F118 x) (Clo1.of (by intro h f; simp only[RZ,mapO]) (by intro h f; simp only[RZ,mapO]) (by intro f; simp only[RZ,RB]) (by intro f; simp only[RZ,RB]) (fun x _ hr=> s118 x hr)) gx1;cases hF;simp only[simprocAttr,R0,b92,hl_0,h0_0,w2];exact fin_ret (by simp only[simprocAttr,R0,fn_out,p92,Rs.ev,take_len_self,hl_0,h0_0,w2])
def F42_1_B(a0:GComplex)(v34_1:Int)(s:Unit):Option ((Unit)⊕((Unit)⊕Bool)):=
 (getI a0.Maps v34_1).bind fun x15=>
(getI a0.Dims (v34_1+1)).bind fun x19=>
if(x15.length:Int)=x19 then
 (getI a0.Dims v34_1).bind fun x22=>
 (F90 a0.Prime x22 x15).bind fun x24=>
 if x24=true then
  some (.inl ())
 else
  some (.inr (.inr false))
else
 some (.inr (.inr false))
def F42_1_D(a0:GComplex)(v34_1:Int)(s:Unit):Option ((Unit)⊕Bool):=
 some (.inl ())
def F42_3_B(a0:GComplex)(v5_2:Int)(x34:List (List Int))(v74_3:Int)(s:Unit):Option ((Unit)⊕((Unit)⊕Bool)):=
 (getI x34 v74_3).bind fun x39=>
(chk (v5_2 - 1)).bind fun x41=>
(F91 a0 x41 x39).bind fun x42=>
(F92 x42).bind fun x44=>
if x44=true then
 some (.inl ())
else
 some (.inr (.inr false))
def F42_3_D(a0:GComplex)(v5_2:Int)(x34:List (List Int))(v74_3:Int)(s:Unit):Option ((Unit)⊕Bool):=
 some (.inl ())
def F42_2_S(a0:GComplex)(v5_2:Int):Option ((Int)⊕((Unit)⊕Bool)):=
 (F86 a0).bind fun x30=>
if v5_2≤x30 then
 (chk (v5_2 - 1)).bind fun x33=>
 (getI a0.Maps x33).bind fun x34=>
 (forR 0 (x34.length:Int) (F42_3_B a0 v5_2 x34) (F42_3_D a0 v5_2 x34) ()).bind fun t46=> match t46 with
  | .inl _=>
   (chk (v5_2+1)).bind fun x47=>
   some (.inl x47)
  | .inr r48=> some (.inr (.inr r48))
else
 some (.inr (.inl ()))
def F42(a0:GComplex):Option Bool:=
 (F67 a0.Prime).bind fun x1=>
 if x1=true then
  (F86 a0).bind fun x3=>
  (F56 x3 0 5).bind fun x5=>
  if x5=true then
   if(a0.Maps.length:Int)=x3 then
    (F82 a0.Dims (fun x=> F88 x)).bind fun x10=>
    if x10=true then
     some false
    else
     (forR 0 (a0.Maps.length:Int) (F42_1_B a0) (F42_1_D a0) ()).bind fun t26=> match t26 with
      | .inl _=>
       (loopW (F42_2_S a0) 2).bind fun t49=> match t49 with
        | .inl _=>
         some true
        | .inr r50=> some r50
      | .inr r51=> some r51
   else
    some false
  else
   some false
 else
  some false
def I42_1(a0:GComplex)(v34_1:Int)(s:Unit)(e:Env)(h:Heap):Prop:=
 ∃k13:Nat,h=⟨[(0,none)],k13⟩∧e.length=86∧e.at 1=V.iptr [V.int .i64 a0.Prime,V.isl (a0.Dims.map Enc.enc),V.isl (a0.Maps.map Enc.enc)]∧e.at 32=V.isl (a0.Maps.map Enc.enc)∧e.at 33=V.int .i64 (a0.Maps.length:Int)∧e.at 34=V.int .i64 v34_1
def P42_1(a0:GComplex)(t:(Unit)⊕Bool)(x:Ex)(e:Env)(h:Heap):Prop:=
 match t with
 | .inl _=> x= .normal∧∃k13:Nat,h=⟨[(0,none)],k13⟩∧e.length=86∧e.at 1=V.iptr [V.int .i64 a0.Prime,V.isl (a0.Dims.map Enc.enc),V.isl (a0.Maps.map Enc.enc)]
 | .inr r=> x= .ret∧Fin p42 (Enc.enc r) .ret e h
theorem l42_1(a0:GComplex){lo:Int}{s:Unit}{t:(Unit)⊕Bool}(hF:forR lo (a0.Maps.length:Int) (F42_1_B a0) (F42_1_D a0) s=some t){e:Env}{h:Heap}(hI:I42_1 a0 lo s e h):W A c42_1 e h (P42_1 a0 t):=by
 show W A (.block 0 (.loop false b42_1)) e h _;rw[W_block];refine W_forR hF 1 (by obtain⟨_,rfl,_⟩:=hI; rfl) (I42_1 a0) hI ?_ ?_
 ·rintro v34_1 _ e h ⟨k13,rfl,h_12⟩ hlt hw o ho
  unfold F42_1_B at ho;obtain⟨x15,gx15,ho⟩:=bS ho;obtain⟨w16a,w16b⟩:=getI_w gx15;have w18:ans A 89 [V.isl (x15.map Enc.enc)]=some (V.int .i64 (x15.length:Int)):=s89 x15 rfl;obtain⟨x19,gx19,ho⟩:=bS ho;obtain⟨w20a,w20b⟩:=getI_w gx19;by_cases c21:(x15.length:Int)=x19
  ·rw[if_pos c21]at ho
   obtain⟨x22,gx22,ho⟩:=bS ho;obtain⟨w23a,w23b⟩:=getI_w gx22;obtain⟨x24,gx24,ho⟩:=bS ho;have w25:ans A 90 [V.int .i64 a0.Prime,V.int .i64 x22,V.isl (x15.map Enc.enc)]=some (V.bool x24):=s90 a0.Prime x22 x15 gx24;cases x24 with
   |true=>
    rw[if_pos rfl]at ho;cases ho;simp only[simprocAttr,R0,b42_1,h_12,eq_true hlt,hw,w16a,w16b,w18,w20a,w20b,eq_true c21,w23a,w23b,w25];refine And.intro rfl (Exists.intro _ (And.intro rfl ?_));simp only[simprocAttr,R0,h_12,eq_true hlt,hw,w16a,w16b,w18,w20a,w20b,eq_true c21,w23a,w23b,w25]
   |false=>
    rw[if_neg Bool.false_ne_true]at ho;cases ho;simp only[simprocAttr,R0,b42_1,h_12,eq_true hlt,hw,w16a,w16b,w18,w20a,w20b,eq_true c21,w23a,w23b,w25];intro ht; subst ht;simp only[simprocAttr,RR,RB];exact And.intro rfl (fin_ret (by simp only[simprocAttr,R0,fn_out,p42,Rs.ev,take_len_self,h_12,eq_true hlt,hw,w16a,w16b,w18,w20a,w20b,eq_true c21,w23a,w23b,w25]))
  ·rw[if_neg c21]at ho
   cases ho;simp only[simprocAttr,R0,b42_1,h_12,eq_true hlt,hw,w16a,w16b,w18,w20a,w20b,eq_false c21];intro ht; subst ht;simp only[simprocAttr,RR,RB];exact And.intro rfl (fin_ret (by simp only[simprocAttr,R0,fn_out,p42,Rs.ev,take_len_self,h_12,eq_true hlt,hw,w16a,w16b,w18,w20a,w20b,eq_false c21]))
 ·rintro v34_1 _ e h ⟨k13,rfl,h_12⟩ hge t1 ho
  unfold F42_1_D at ho;cases ho;simp only[simprocAttr,R0,b42_1,h_12,eq_false hge];intro ht; subst ht;refine And.intro rfl (Exists.intro _ (And.intro rfl ?_));simp only[simprocAttr,R0,h_12,eq_false hge]
def I42_3(a0:GComplex)(v5_2:Int)(x34:List (List Int))(v74_3:Int)(s:Unit)(e:Env)(h:Heap):Prop:=
 ∃k37:Nat,h=⟨[(0,none)],k37⟩∧e.length=86∧e.at 1=V.iptr [V.int .i64 a0.Prime,V.isl (a0.Dims.map Enc.enc),V.isl (a0.Maps.map Enc.enc)]∧e.at 5=V.int .i64 v5_2∧e.at 72=V.isl (x34.map Enc.enc)∧e.at 73=V.int .i64 (x34.length:Int)∧e.at 74=V.int .i64 v74_3
def P42_3(a0:GComplex)(v5_2:Int)(x34:List (List Int))(t:(Unit)⊕Bool)(x:Ex)(e:Env)(h:Heap):Prop:=
 match t with
 | .inl _=> x= .normal∧∃k37:Nat,h=⟨[(0,none)],k37⟩∧e.length=86∧e.at 1=V.iptr [V.int .i64 a0.Prime,V.isl (a0.Dims.map Enc.enc),V.isl (a0.Maps.map Enc.enc)]∧e.at 5=V.int .i64 v5_2
 | .inr r=> x= .ret∧Fin p42 (Enc.enc r) .ret e h
theorem l42_3(a0:GComplex)(v5_2:Int)(x34:List (List Int)){lo:Int}{s:Unit}{t:(Unit)⊕Bool}(hF:forR lo (x34.length:Int) (F42_3_B a0 v5_2 x34) (F42_3_D a0 v5_2 x34) s=some t){e:Env}{h:Heap}(hI:I42_3 a0 v5_2 x34 lo s e h):W A c42_3 e h (P42_3 a0 v5_2 x34 t):=by
 show W A (.block 4 (.loop false b42_3)) e h _;rw[W_block];refine W_forR hF 1 (by obtain⟨_,rfl,_⟩:=hI; rfl) (I42_3 a0 v5_2 x34) hI ?_ ?_
 ·rintro v74_3 _ e h ⟨k37,rfl,h_36⟩ hlt hw o ho
  unfold F42_3_B at ho;obtain⟨x39,gx39,ho⟩:=bS ho;obtain⟨w40a,w40b⟩:=getI_w gx39;obtain⟨x41,gx41,ho⟩:=bS ho;have wx41:=chk_w gx41;obtain⟨x42,gx42,ho⟩:=bS ho;have w43:ans A 91 [(eC a0),V.int .i64 x41,V.isl (x39.map Enc.enc)]=some (V.isl (x42.map Enc.enc)):=s91 a0 x41 x39 gx42;obtain⟨x44,gx44,ho⟩:=bS ho;have w45:ans A 92 [V.isl (x42.map Enc.enc)]=some (V.bool x44):=s92 x42 gx44;cases x44 with
  |true=>
   rw[if_pos rfl]at ho;cases ho;simp only[simprocAttr,R0,b42_3,h_36,eq_true hlt,hw,w40a,w40b,wx41,w43,w45];refine And.intro rfl (Exists.intro _ (And.intro rfl ?_));simp only[simprocAttr,R0,h_36,eq_true hlt,hw,w40a,w40b,wx41,w43,w45]
  |false=>
   rw[if_neg Bool.false_ne_true]at ho;cases ho;simp only[simprocAttr,R0,b42_3,h_36,eq_true hlt,hw,w40a,w40b,wx41,w43,w45];intro ht; subst ht;simp only[simprocAttr,RR,RB];exact And.intro rfl (fin_ret (by simp only[simprocAttr,R0,fn_out,p42,Rs.ev,take_len_self,h_36,eq_true hlt,hw,w40a,w40b,wx41,w43,w45]))
 ·rintro v74_3 _ e h ⟨k37,rfl,h_36⟩ hge t1 ho
  unfold F42_3_D at ho;cases ho;simp only[simprocAttr,R0,b42_3,h_36,eq_false hge];intro ht; subst ht;refine And.intro rfl (Exists.intro _ (And.intro rfl ?_));simp only[simprocAttr,R0,h_36,eq_false hge]
def I42_2(a0:GComplex)(v5_2:Int)(e:Env)(h:Heap):Prop:=
 ∃k28:Nat,h=⟨[(0,none)],k28⟩∧e.length=86∧e.at 1=V.iptr [V.int .i64 a0.Prime,V.isl (a0.Dims.map Enc.enc),V.isl (a0.Maps.map Enc.enc)]∧e.at 5=V.int .i64 v5_2
def P42_2(a0:GComplex)(t:(Unit)⊕Bool)(x:Ex)(e:Env)(h:Heap):Prop:=
 match t with
 | .inl _=> x= .normal∧∃k28:Nat,h=⟨[(0,none)],k28⟩∧e.length=86
 | .inr r=> x= .ret∧Fin p42 (Enc.enc r) .ret e h
theorem l42_2(a0:GComplex){s:Int}{t:(Unit)⊕Bool}(hF:loopW (F42_2_S a0) s=some t){e:Env}{h:Heap}(hI:I42_2 a0 s e h):W A c42_2 e h (P42_2 a0 t):=by
 show W A (.block 2 (.loop false b42_2)) e h _;rw[W_block];refine W_loop hF 1 (by obtain⟨_,rfl,_⟩:=hI; rfl) (I42_2 a0) hI ?_
 ·rintro v5_2 e h ⟨k28,rfl,h_27⟩ o ho
  unfold F42_2_S at ho;obtain⟨x30,gx30,ho⟩:=bS ho;have w31:ans A 86 [(eC a0)]=some (V.int .i64 x30):=s86 a0 gx30;by_cases c32:v5_2≤x30
  ·rw[if_pos c32]at ho
   obtain⟨x33,gx33,ho⟩:=bS ho;have wx33:=chk_w gx33;obtain⟨x34,gx34,ho⟩:=bS ho;obtain⟨w35a,w35b⟩:=getI_w gx34;obtain⟨t46,gt46,ho⟩:=bS ho;rcases t46 with _|r48
   ·dsimp only at ho
    simp only[simprocAttr,R0,b42_2,h_27,w31,eq_true c32,wx33,w35a,w35b];refine W.mono (l42_3 a0 v5_2 x34 gt46 (Exists.intro _ (And.intro rfl ?_))) ?_
    ·simp only[simprocAttr,R0,h_27,w31,eq_true c32,wx33,w35a,w35b]
    rintro _ e _ ⟨rfl,k37,rfl,h_38⟩;obtain⟨x47,gx47,ho⟩:=bS ho;have wx47:=chk_w gx47;cases ho;simp only[simprocAttr,R0,h_38,eq_true c32,wx47];refine And.intro rfl (Exists.intro _ (And.intro rfl ?_));simp only[simprocAttr,R0,h_38,eq_true c32,wx47]
   ·dsimp only at ho
    cases ho;simp only[simprocAttr,R0,b42_2,h_27,w31,eq_true c32,wx33,w35a,w35b];refine W.mono (l42_3 a0 v5_2 x34 gt46 (Exists.intro _ (And.intro rfl ?_))) ?_
    ·simp only[simprocAttr,R0,h_27,w31,eq_true c32,wx33,w35a,w35b]
    rintro _ e h ⟨rfl,hq⟩;simp only[simprocAttr,RR,RB];intro ht; subst ht;simp only[simprocAttr,RR,RB];exact And.intro rfl hq
  ·rw[if_neg c32]at ho
   cases ho;simp only[simprocAttr,R0,b42_2,h_27,w31,eq_false c32];intro ht; subst ht;simp only[simprocAttr,RR,RB];refine And.intro rfl (Exists.intro _ (And.intro rfl ?_));simp only[simprocAttr,R0,h_27,w31,eq_false c32]
theorem s42(a0:GComplex){r:Bool}(hF:F42 a0=some r):ans A 42 [(eC a0)]=some (Enc.enc r):=by
 refine ans_of (f:=p42) rfl rfl rfl fun e hl he=>?_;have h0_0:e.at 0=(eC a0):=he 0 _ rfl;have hl_0:e.length=86:=hl;clear he hl;have h_0:=And.intro hl_0 h0_0;show W A b42 e ⟨[],0⟩ _;unfold F42 at hF;obtain⟨x1,gx1,hF⟩:=bS hF;have w2:ans A 67 [V.int .i64 a0.Prime]=some (V.bool x1):=s67 a0.Prime gx1;cases x1 with
 |true=>
  rw[if_pos rfl]at hF;obtain⟨x3,gx3,hF⟩:=bS hF;have w4:ans A 86 [(eC a0)]=some (V.int .i64 x3):=s86 a0 gx3;obtain⟨x5,gx5,hF⟩:=bS hF;have w6:ans A 56 [V.int .i64 x3,V.int .i64 0,V.int .i64 5]=some (V.bool x5):=s56 x3 0 5 gx5;cases x5 with
  |true=>
   rw[if_pos rfl]at hF;have w8:ans A 87 [V.isl (a0.Maps.map Enc.enc)]=some (V.int .i64 (a0.Maps.length:Int)):=s87 a0.Maps rfl;by_cases c9:(a0.Maps.length:Int)=x3
   ·rw[if_pos c9]at hF
    obtain⟨x10,gx10,hF⟩:=bS hF;have w11:ans A 82 [V.isl (a0.Dims.map Enc.enc),V.fn 88 [] []]=some (V.bool x10):=s82 a0.Dims (fun x=> F88 x) (Clo1.of (by intro h f; simp only[RZ,mapO]) (by intro h f; simp only[RZ,mapO]) (by intro f; simp only[RZ,RB]) (by intro f; simp only[RZ,RB]) (fun x _ hr=> s88 x hr)) gx10;cases x10 with
    |true=>
     rw[if_pos rfl]at hF;cases hF;simp only[simprocAttr,R0,b42,h_0,w2,w4,w6,w8,eq_true c9,w11];exact fin_ret (by simp only[simprocAttr,R0,fn_out,p42,Rs.ev,take_len_self,h_0,w2,w4,w6,w8,eq_true c9,w11])
    |false=>
     rw[if_neg Bool.false_ne_true]at hF;obtain⟨t26,gt26,hF⟩:=bS hF;rcases t26 with _|r51
     ·dsimp only at hF
      simp only[simprocAttr,R0,b42,h_0,w2,w4,w6,w8,eq_true c9,w11];refine W.mono (l42_1 a0 gt26 (Exists.intro _ (And.intro rfl ?_))) ?_
      ·simp only[simprocAttr,R0,h_0,w2,w4,w6,w8,eq_true c9,w11]
      rintro _ e _ ⟨rfl,k13,rfl,h_14⟩;obtain⟨t49,gt49,hF⟩:=bS hF;rcases t49 with _|r50
      ·dsimp only at hF
       simp only[simprocAttr,R0,h_14,eq_true c9];refine W.mono (l42_2 a0 gt49 (Exists.intro _ (And.intro rfl ?_))) ?_
       ·simp only[simprocAttr,R0,h_14,eq_true c9]
       rintro _ e _ ⟨rfl,k28,rfl,hl_29⟩;cases hF;simp only[simprocAttr,R0,hl_29,eq_true c9];exact fin_ret (by simp only[simprocAttr,R0,fn_out,p42,Rs.ev,take_len_self,hl_29,eq_true c9])
      ·dsimp only at hF
       cases hF;simp only[simprocAttr,R0,h_14,eq_true c9];refine W.mono (l42_2 a0 gt49 (Exists.intro _ (And.intro rfl ?_))) ?_
       ·simp only[simprocAttr,R0,h_14,eq_true c9]
       rintro _ e h ⟨rfl,hq⟩;simp only[simprocAttr,RR,RB];exact hq
     ·dsimp only at hF
      cases hF;simp only[simprocAttr,R0,b42,h_0,w2,w4,w6,w8,eq_true c9,w11];refine W.mono (l42_1 a0 gt26 (Exists.intro _ (And.intro rfl ?_))) ?_
      ·simp only[simprocAttr,R0,h_0,w2,w4,w6,w8,eq_true c9,w11]
      rintro _ e h ⟨rfl,hq⟩;simp only[simprocAttr,RR,RB];exact hq
   ·rw[if_neg c9]at hF
    cases hF;simp only[simprocAttr,R0,b42,h_0,w2,w4,w6,w8,eq_false c9];exact fin_ret (by simp only[simprocAttr,R0,fn_out,p42,Rs.ev,take_len_self,h_0,w2,w4,w6,w8,eq_false c9])
  |false=>
   rw[if_neg Bool.false_ne_true]at hF;cases hF;simp only[simprocAttr,R0,b42,h_0,w2,w4,w6];exact fin_ret (by simp only[simprocAttr,R0,fn_out,p42,Rs.ev,take_len_self,h_0,w2,w4,w6])
 |false=>
  rw[if_neg Bool.false_ne_true]at hF;cases hF;simp only[simprocAttr,R0,b42,h_0,w2];exact fin_ret (by simp only[simprocAttr,R0,fn_out,p42,Rs.ev,take_len_self,h_0,w2])
def F102(a0:GComplex)(a1:Int):Option Int:=
 (F86 a0).bind fun x1=>
 (F56 a1 0 x1).bind fun x3=>
 if x3=true then
  (getI a0.Dims a1).bind fun x5=>
  some x5
 else
  some 0
theorem s102(a0:GComplex)(a1:Int){r:Int}(hF:F102 a0 a1=some r):ans A 102 [(eC a0),V.int .i64 a1]=some (Enc.enc r):=by
 refine ans_of (f:=p102) rfl rfl rfl fun e hl he=>?_;have h0_0:e.at 0=(eC a0):=he 0 _ rfl;have h1_0:e.at 1=V.int .i64 a1:=he 1 _ rfl;have hl_0:e.length=15:=hl;clear he hl;have h_0:=And.intro hl_0 (And.intro h0_0 h1_0);show W A b102 e ⟨[],0⟩ _;unfold F102 at hF;obtain⟨x1,gx1,hF⟩:=bS hF;have w2:ans A 86 [(eC a0)]=some (V.int .i64 x1):=s86 a0 gx1;obtain⟨x3,gx3,hF⟩:=bS hF;have w4:ans A 56 [V.int .i64 a1,V.int .i64 0,V.int .i64 x1]=some (V.bool x3):=s56 a1 0 x1 gx3;cases x3 with
 |true=>
  rw[if_pos rfl]at hF;obtain⟨x5,gx5,hF⟩:=bS hF;obtain⟨w6a,w6b⟩:=getI_w gx5;cases hF;simp only[simprocAttr,R0,b102,h_0,w2,w4,w6a,w6b];exact fin_ret (by simp only[simprocAttr,R0,fn_out,p102,Rs.ev,take_len_self,h_0,w2,w4,w6a,w6b])
 |false=>
  rw[if_neg Bool.false_ne_true]at hF;cases hF;simp only[simprocAttr,R0,b102,h_0,w2,w4];exact fin_ret (by simp only[simprocAttr,R0,fn_out,p102,Rs.ev,take_len_self,h_0,w2,w4])
def F132(a0:Int)(a1:Int):Option (List Int):=
 (mkL 8 a0 0).bind fun l1=>
 (getI l1 a1).bind fun x3=>
 (setI l1 a1 1).bind fun l5=>
 some l5
theorem s132(a0:Int)(a1:Int){r:List Int}(hF:F132 a0 a1=some r):ans A 132 [V.int .i64 a0,V.int .i64 a1]=some (Enc.enc r):=by
 refine ans_of (f:=p132) rfl rfl rfl fun e hl he=>?_;have h0_0:e.at 0=V.int .i64 a0:=he 0 _ rfl;have h1_0:e.at 1=V.int .i64 a1:=he 1 _ rfl;have hl_0:e.length=12:=hl;clear he hl;show W A b132 e ⟨[],0⟩ _;unfold F132 at hF;obtain⟨l1,gl1,hF⟩:=bS hF;obtain⟨w2a,w2b,w2c,w2d,w2e⟩:=mkL_w gl1;replace w2e:(List.replicate (Int.toNat a0) [V.int .i64 0]).flatten=List.map Enc.enc l1:=w2e;obtain⟨x3,gx3,hF⟩:=bS hF;obtain⟨w4a,w4b⟩:=getI_w gx3;have w4c:=getI_lt gx3;replace w4c:a1 < (((Int.toNat a0):Nat):Int):=by first|exact w4c|(simp only[w2d]at w4c ⊢; exact w4c)
 have w4d:List.drop (Int.toNat a1) (l1.map Enc.enc)=(V.int .i64 x3)::List.drop ((Int.toNat a1)+1) (l1.map Enc.enc):=drop_enc w4b;obtain⟨l5,gl5,hF⟩:=bS hF;obtain⟨w6a,w6b,w6c,w6d,w6e⟩:=setI_w gl5;replace w6e:List.take (Int.toNat a1) (l1.map Enc.enc)++[V.int .i64 1]++List.drop (Int.toNat a1+1) (l1.map Enc.enc)=List.map Enc.enc l5:=w6e;have hE:=Option.some.inj hF; subst hE;simp only[simprocAttr, -Int.reduceNatCast',R0,b132,hl_0,h0_0,h1_0,w2a,w2b,w2c,w2e,w4a,w4b,w4c,w4d,w6a,w6b,w6c,w6e];exact fin_ret (by simp only[simprocAttr, -Int.reduceNatCast',R0,fn_out,p132,Rs.ev,take_len_self,hl_0,h0_0,h1_0,w2a,w2b,w2c,w2e,w4a,w4b,w4c,w4d,w6a,w6b,w6c,w6e,frzs (α:=Int) l5,takes (α:=Int) l5,take_len (α:=Int) (l:=l5) (n:=(Int.toNat a0)) (by first|rfl|simp only[w2d,w6d]),w2d,w6d])
theorem t132(a0:Int)(a1:Int){r:List Int}(hF:F132 a0 a1=some r):tans A 132 [1] [V.int .i64 a0,V.int .i64 a1]=some (Enc.enc r):=by
 refine tans_of (f:=p132) rfl rfl rfl fun e hl he=>?_;have h0_0:e.at 0=V.int .i64 a0:=he 0 _ rfl;have h1_0:e.at 1=V.int .i64 a1:=he 1 _ rfl;have hl_0:e.length=12:=hl;clear he hl;show W A b132 e ⟨[],0⟩ _;unfold F132 at hF;obtain⟨l1,gl1,hF⟩:=bS hF;obtain⟨w2a,w2b,w2c,w2d,w2e⟩:=mkL_w gl1;replace w2e:(List.replicate (Int.toNat a0) [V.int .i64 0]).flatten=List.map Enc.enc l1:=w2e;obtain⟨x3,gx3,hF⟩:=bS hF;obtain⟨w4a,w4b⟩:=getI_w gx3;have w4c:=getI_lt gx3;replace w4c:a1 < (((Int.toNat a0):Nat):Int):=by first|exact w4c|(simp only[w2d]at w4c ⊢; exact w4c)
 have w4d:List.drop (Int.toNat a1) (l1.map Enc.enc)=(V.int .i64 x3)::List.drop ((Int.toNat a1)+1) (l1.map Enc.enc):=drop_enc w4b;obtain⟨l5,gl5,hF⟩:=bS hF;obtain⟨w6a,w6b,w6c,w6d,w6e⟩:=setI_w gl5;replace w6e:List.take (Int.toNat a1) (l1.map Enc.enc)++[V.int .i64 1]++List.drop (Int.toNat a1+1) (l1.map Enc.enc)=List.map Enc.enc l5:=w6e;have hE:=Option.some.inj hF; subst hE;simp only[simprocAttr, -Int.reduceNatCast',R0,b132,hl_0,h0_0,h1_0,w2a,w2b,w2c,w2e,w4a,w4b,w4c,w4d,w6a,w6b,w6c,w6e];exact tfin_ret (by simp only[simprocAttr, -Int.reduceNatCast',R0,fn_out,p132,Rs.ev,take_len_self,hl_0,h0_0,h1_0,w2a,w2b,w2c,w2e,w4a,w4b,w4c,w4d,w6a,w6b,w6c,w6e,frzs (α:=Int) l5,takes (α:=Int) l5,take_len (α:=Int) (l:=l5) (n:=(Int.toNat a0)) (by first|rfl|simp only[w2d,w6d]),w2d,w6d])
def F124_1_B(a0:Int)(v7_1:Int)(o0_1:(List (List Int))):Option (((List (List Int)))⊕((List (List Int)))):=
 (F132 a0 v7_1).bind fun x5=>
(app 24 o0_1 [x5]).bind fun l8=>
some (.inl l8)
def F124_1_D(a0:Int)(v7_1:Int)(o0_1:(List (List Int))):Option ((List (List Int))):=
 some o0_1
def F124(a0:Int):Option (List (List Int)):=
 (forR 0 a0 (F124_1_B a0) (F124_1_D a0) ([]:(List (List Int)))).bind fun zo0_1=>
 some zo0_1
theorem d124(a0:Int){r:List (List Int)}(hF:F124 a0=some r):∃v h',res A 124 [V.int .i64 a0] Heap.empty=some (v,h')∧∃K,Deep.rep h' v r K:=by
 refine res_dp (f:=p124) rfl rfl rfl fun e hl he=>?_;have h0_0:e.at 0=V.int .i64 a0:=he 0 _ rfl;have hl_0:e.length=18:=hl;clear he hl;show W A b124 e ⟨[],0⟩ _;unfold F124 at hF;obtain⟨zo0_1,gt9,hF⟩:=bS hF;have hE:=Option.some.inj hF; subst hE;simp only[simprocAttr, -Int.reduceNatCast',R1,b124,hl_0,h0_0];show W A (.block 0 (.loop true b124_1)) _ _ _;rw[W_block];refine W_forR gt9 _ rfl (fun i l e h=>∃u vs K,h.ents[0]? =some (u,some vs)∧reps h vs l K∧¬K 0∧e.length=18∧e.at 0=V.int .i64 a0∧e.at 3=V.sl 0 u 0 l.length 1∧e.at 6=V.int .i64 a0∧e.at 7=V.int .i64 i) ?_ ?_ ?_
 ·refine⟨0,[],fun _=> False,rfl,fun _ x=> x,fun x=> x,?_⟩
  simp only[simprocAttr, -Int.reduceNatCast',R1,hl_0,h0_0]
 ·rintro i l e ⟨E,c⟩ ⟨u,vs,K,g1,g2,g3,hl_1,h0_1,h3_1,h6_1,h7_1⟩ hlt hw o ho
  unfold F124_1_B at ho;obtain⟨x7,gx7,ho⟩:=bS ho;have w8:=t132 a0 i gx7;obtain⟨l10,gl10,ho⟩:=bS ho;obtain⟨q1,q2,rfl⟩:=app_w gl10;have hE:=Option.some.inj ho; subst hE;have hln:=g2.len;have hE0:0 < E.length:=(List.getElem?_eq_some_iff.1 g1).1;have w9:∀x y c',appendV 1 24 (.sl 0 u 0 l.length 1) 1 [V.sl E.length c 0 x7.length 1] ⟨E++[x]++[y],c'⟩=_:=fun x y c'=> appendV_deep (E:=E++[x]++[y]) (vs:=vs) (by rw[List.getElem?_append_left (by simp),List.getElem?_append_left hE0]; exact g1) hln (by simpa using q1) (by simpa using q2);simp only[simprocAttr, -Int.reduceNatCast',R1,b124_1,hl_1,h0_1,h3_1,h6_1,h7_1,eq_true hlt,hw,w8,callM_tans,thaw_one,get_last,w9];have r1:=deep_round (h:=⟨E,c⟩) (h1:=⟨E++[(c,some (x7.map Enc.enc))],c+1⟩) (h2:=⟨(E++[(c,some (x7.map Enc.enc))]++[(c+1,some [V.sl E.length c 0 x7.length 1])]).set 0 (c+1+1,some (vs++[V.sl E.length c 0 x7.length 1])),c+1+1+1⟩) g2
   (int_row (l:=x7) (K:=fun k=> k=E.length) (get_last _ _) fun k=> Iff.rfl) (fun k q=> by show E.length≤k; omega) (fun k q=> List.getElem?_append_left q) (fun k p q=> set_app_new (fun e=> by subst e; exact q.elim g3 (fun q=> by omega)) p) (by simp)
  refine And.intro rfl ⟨_,_,_,set_app_key (by simp),r1,fun q=> q.elim g3 (fun q=> by omega),?_⟩;simp only[simprocAttr, -Int.reduceNatCast',R1,hl_1,h0_1,h3_1,h6_1,h7_1,eq_true hlt,hw,w8,List.length_append]
 ·rintro i l e ⟨E,c⟩ ⟨u,vs,K,g1,g2,g3,hl_1,h0_1,h3_1,h6_1,h7_1⟩ hge t1 ho
  unfold F124_1_D at ho;have hE:=Option.some.inj ho; subst hE;simp only[simprocAttr, -Int.reduceNatCast',R1,b124_1,hl_1,h0_1,h3_1,h6_1,h7_1,eq_false hge];intro ht; subst ht;refine And.intro (fun _=> trivial) ⟨_,by simp only[simprocAttr, -Int.reduceNatCast',R1,fn_out,p124,Rs.ev,hl_1],fun k=> k=0∨K k,.inr ⟨0,u,vs,K,rfl,g1,g2,g3,fun k=> Iff.rfl⟩⟩
theorem s124(a0:Int){r:List (List Int)}(hF:F124 a0=some r):ans A 124 [V.int .i64 a0]=some (Enc.enc r):=ans_of_deep (by decide) (d124 a0 hF)
def F96(a0:List Int):Option (List Int):=app 8 [] a0
theorem s96(a0:List Int){r:List Int}(hF:F96 a0=some r):ans A 96 [V.isl (a0.map Enc.enc)]=some (Enc.enc r):=clone_ans rfl hF
theorem t96(a0:List Int){r:List Int}(hF:F96 a0=some r):tans A 96 [1] [V.isl (a0.map Enc.enc)]=some (Enc.enc r):=clone_tans rfl hF
def F137(a0:List Int)(d0:Int):Option Bool:=
 (getI a0 d0).bind fun x1=>
 some (!(decide (x1=0)))
theorem s137(a0:List Int)(d0:Int){r:Bool}(hF:F137 a0 d0=some r):ans A 137 [V.isl (a0.map Enc.enc),V.iptr [V.int .i64 d0]]=some (Enc.enc r):=by
 refine ans_of (f:=p137) rfl rfl rfl fun e hl he=>?_;have h0_0:e.at 0=V.isl (a0.map Enc.enc):=he 0 _ rfl;have h1_0:e.at 1=V.iptr [V.int .i64 d0]:=he 1 _ rfl;have hl_0:e.length=9:=hl;clear he hl;show W A b137 e ⟨[],0⟩ _;unfold F137 at hF;obtain⟨x1,gx1,hF⟩:=bS hF;obtain⟨w2a,w2b⟩:=getI_w gx1;cases hF;simp only[simprocAttr,R0,b137,hl_0,h0_0,h1_0,w2a,w2b];exact fin_ret (by simp only[simprocAttr,R0,fn_out,p137,Rs.ev,take_len_self,hl_0,h0_0,h1_0,w2a,w2b])
def F138_1_S(a0:Int)(a1:Int)(v5_1:Int):Option ((Int)⊕(Int)):=
 (chk (v5_1*a1)).bind fun x4=>
(remI x4 a0).bind fun x5=>
if x5=1 then
 some (.inr v5_1)
else
 (chk (v5_1+1)).bind fun x8=>
 some (.inl x8)
def F138(a0:Int)(a1:Int):Option Int:=
 (loopW (F138_1_S a0 a1) 1).bind fun zv5_1=>
 some zv5_1
def I138_1(a0:Int)(a1:Int)(v5_1:Int)(e:Env)(h:Heap):Prop:=
 ∃k2:Nat,h=⟨[],k2⟩∧e.length=15∧e.at 0=V.int .i64 a0∧e.at 1=V.int .i64 a1∧e.at 5=V.int .i64 v5_1
def P138_1(a0:Int)(a1:Int)(zv5_1:Int)(x:Ex)(e:Env)(h:Heap):Prop:=
 x= .normal∧∃k2:Nat,h=⟨[],k2⟩∧e.length=15∧e.at 5=V.int .i64 zv5_1
theorem l138_1(a0:Int)(a1:Int){s:Int}{t:Int}(hF:loopW (F138_1_S a0 a1) s=some t){e:Env}{h:Heap}(hI:I138_1 a0 a1 s e h):W A c138_1 e h (P138_1 a0 a1 t):=by
 show W A (.block 0 (.loop false b138_1)) e h _;rw[W_block];refine W_loop hF 0 (by obtain⟨_,rfl,_⟩:=hI; rfl) (I138_1 a0 a1) hI ?_
 ·rintro v5_1 e h ⟨k2,rfl,h_1⟩ o ho
  unfold F138_1_S at ho;obtain⟨x4,gx4,ho⟩:=bS ho;have wx4:=chk_w gx4;obtain⟨x5,gx5,ho⟩:=bS ho;obtain⟨w6a,w6b⟩:=rem_w gx5;by_cases c7:x5=1
  ·rw[if_pos c7]at ho
   cases ho;simp only[simprocAttr,R0,b138_1,h_1,wx4,eq_false w6a,w6b,eq_true c7];intro ht; subst ht;simp only[simprocAttr,RR,RB];refine And.intro rfl (Exists.intro _ (And.intro rfl ?_));simp only[simprocAttr,R0,h_1,wx4,eq_false w6a,w6b,eq_true c7]
  ·rw[if_neg c7]at ho
   obtain⟨x8,gx8,ho⟩:=bS ho;have wx8:=chk_w gx8;cases ho;simp only[simprocAttr,R0,b138_1,h_1,wx4,eq_false w6a,w6b,eq_false c7,wx8];refine And.intro rfl (Exists.intro _ (And.intro rfl ?_));simp only[simprocAttr,R0,h_1,wx4,eq_false w6a,w6b,eq_false c7,wx8]
theorem s138(a0:Int)(a1:Int){r:Int}(hF:F138 a0 a1=some r):ans A 138 [V.int .i64 a0,V.int .i64 a1]=some (Enc.enc r):=by
 refine ans_of (f:=p138) rfl rfl rfl fun e hl he=>?_;have h0_0:e.at 0=V.int .i64 a0:=he 0 _ rfl;have h1_0:e.at 1=V.int .i64 a1:=he 1 _ rfl;have hl_0:e.length=15:=hl;clear he hl;show W A b138 e ⟨[],0⟩ _;unfold F138 at hF;obtain⟨zv5_1,gt9,hF⟩:=bS hF;simp only[simprocAttr,R0,b138,hl_0,h0_0,h1_0];refine W.mono (l138_1 a0 a1 gt9 (Exists.intro _ (And.intro rfl ?_))) ?_
 ·simp only[simprocAttr,R0,hl_0,h0_0,h1_0]
 rintro _ e _ ⟨rfl,k2,rfl,h_3⟩;cases hF;simp only[simprocAttr,R0,h_3];exact fin_ret (by simp only[simprocAttr,R0,fn_out,p138,Rs.ev,take_len_self,h_3])
def F139_1_B(other:List Int)(p by_:Int)(i:Int)(row:List Int):Option (List Int⊕List Int):=
 (getI other i).bind fun y=>(getI row i).bind fun r=>(chk (p - by_)).bind fun q=>(chk (q*y)).bind fun m=>(chk (r+m)).bind fun s=>(remI s p).bind fun z=>(setI row i z).bind fun row'=> some (.inl row')
def F139_1_D(i:Int)(row:List Int):Option (List Int):=some row
def F139(row other:List Int)(p by_:Int):Option (List Int):=forR 0 (other.length:Int) (F139_1_B other p by_) F139_1_D row
theorem d139{row other row':List Int}{p by_:Int}(hF:F139 row other p by_=some row')(E:List (Nat×Option (List V)))(c:Nat){key uid key2 uid2:Nat}(g1:E[key]? =some (uid,some (row.map Enc.enc)))(g2:E[key2]? =some (uid2,some (other.map Enc.enc)))(hne:key2≠key):
  res A 139 [V.sl key uid 0 row.length 1,V.sl key2 uid2 0 other.length 1,V.int .i64 p,V.int .i64 by_] ⟨E,c⟩=some (V.undef,⟨E.set key (uid,some (List.map Enc.enc row')),c⟩)∧row'.length=row.length:=by
 have hk:key < E.length:=(List.getElem?_eq_some_iff.1 g1).1
 suffices∃h',res A 139 [V.sl key uid 0 row.length 1,V.sl key2 uid2 0 other.length 1,V.int .i64 p,V.int .i64 by_] ⟨E,c⟩=some (V.undef,h')∧h'=⟨E.set key (uid,some (List.map Enc.enc row')),c⟩∧row'.length=row.length by
  obtain⟨h',q1,rfl,q2⟩:=this;exact⟨q1,q2⟩
 refine res_ex (f:=p139) rfl rfl rfl fun e hl he=>?_;have h0_0:e.at 0=V.sl key uid 0 row.length 1:=he 0 _ rfl;have h1_0:e.at 1=V.sl key2 uid2 0 other.length 1:=he 1 _ rfl;have h2_0:e.at 2=V.int .i64 p:=he 2 _ rfl;have h3_0:e.at 3=V.int .i64 by_:=he 3 _ rfl;have hl_0:e.length=33:=hl;clear he hl;show W A b139 e ⟨E,c⟩ _;unfold F139 at hF;simp only[simprocAttr,R1,b139,hl_0,h0_0,h1_0,h2_0,h3_0];show W A (.block 0 (.loop true b139_1)) _ _ _;rw[W_block];refine W_forR hF _ rfl (fun i s e h=> s.length=row.length∧h=⟨E.set key (uid,some (s.map Enc.enc)),c⟩∧e.length=33∧e.at 0=V.sl key uid 0 row.length 1∧e.at 2=V.int .i64 p∧e.at 3=V.int .i64 by_∧e.at 10=V.sl key2 uid2 0 other.length 1∧e.at 11=V.int .i64 (other.length:Int)∧e.at 12=V.int .i64 i) ?_ ?_ ?_
 ·refine⟨rfl,?_,?_⟩
  ·rw[set_self g1]
  ·simp only[simprocAttr,R1,hl_0,h0_0,h1_0,h2_0,h3_0]
 ·clear hl_0 h0_0 h1_0 h2_0 h3_0
  rintro i s e h ⟨hs,rfl,h_1⟩ hlt hw s' ho;unfold F139_1_B at ho;obtain⟨y,gy,ho⟩:=bS ho;obtain⟨ya,yb⟩:=getI_w gy;have yc:=getI_lt gy;obtain⟨r,gr,ho⟩:=bS ho;obtain⟨ra,rb⟩:=getI_w gr;have rc:=getI_lt gr;obtain⟨q,gq,ho⟩:=bS ho;have wq:=chk_w gq;obtain⟨m,gm,ho⟩:=bS ho;have wm:=chk_w gm;obtain⟨t,gt,ho⟩:=bS ho;have wt:=chk_w gt;obtain⟨z,gz,ho⟩:=bS ho;obtain⟨wz0,wz⟩:=rem_w gz;obtain⟨row2,gs,ho⟩:=bS ho;obtain⟨s1,s2,s3,s4,s5⟩:=setI_w gs;cases ho;have oy:ofCells none (List.drop (Int.toNat i) (other.map Enc.enc))=some (V.int .i64 y):=ofCells_drop (by rw[List.getElem?_map,yb]; rfl);have orr:ofCells none (List.drop (Int.toNat i) (s.map Enc.enc))=some (V.int .i64 r):=ofCells_drop (by rw[List.getElem?_map,rb]; rfl);have n1:∀x,(E.set key x)[key]? =some x:=fun x=> set_app_key hk;have n2:∀x,(E.set key x)[key2]? =some (uid2,some (other.map Enc.enc)):=fun x=>(set_ne hne).trans g2;have s5':List.take (Int.toNat i) (s.map Enc.enc)++[V.int .i64 z]++List.drop (Int.toNat i+1) (s.map Enc.enc)=List.map Enc.enc row2:=s5;have rc':i < (row.length:Int):=by omega
  simp only[simprocAttr,R1,b139_1,h_1,eq_true hlt,hw,ya,eq_true yc,oy,ra,eq_true rc',orr,n1,n2,wq,wm,wt,wz0,wz,s3,s5',List.set_set];refine And.intro rfl ⟨by omega,rfl,?_⟩;simp only[simprocAttr,R1,h_1,hw]
 ·clear hl_0 h0_0 h1_0 h2_0 h3_0
  rintro i s e h ⟨hs,rfl,h_1⟩ hge t1 ho;unfold F139_1_D at ho;cases ho;simp only[simprocAttr,R1,b139_1,h_1,eq_false hge];intro ht; subst ht;refine And.intro (fun _=> trivial) ⟨?_,rfl,hs⟩;simp only[simprocAttr,R1,fn_out,p139,mapO];rfl
theorem i139{row other row':List Int}{p by_:Int}(hF:F139 row other p by_=some row')(E:List (Nat×Option (List V)))(c:Nat){key uid:Nat}(g1:E[key]? =some (uid,some (row.map Enc.enc))):
  res A 139 [V.sl key uid 0 row.length 1,V.isl (other.map Enc.enc),V.int .i64 p,V.int .i64 by_] ⟨E,c⟩=some (V.undef,⟨E.set key (uid,some (List.map Enc.enc row')),c⟩)∧row'.length=row.length:=by
 have hk:key < E.length:=(List.getElem?_eq_some_iff.1 g1).1
 suffices∃h',res A 139 [V.sl key uid 0 row.length 1,V.isl (other.map Enc.enc),V.int .i64 p,V.int .i64 by_] ⟨E,c⟩=some (V.undef,h')∧h'=⟨E.set key (uid,some (List.map Enc.enc row')),c⟩∧row'.length=row.length by
  obtain⟨h',q1,rfl,q2⟩:=this;exact⟨q1,q2⟩
 refine res_ex (f:=p139) rfl rfl rfl fun e hl he=>?_;have h0_0:e.at 0=V.sl key uid 0 row.length 1:=he 0 _ rfl;have h1_0:e.at 1=V.isl (other.map Enc.enc):=he 1 _ rfl;have h2_0:e.at 2=V.int .i64 p:=he 2 _ rfl;have h3_0:e.at 3=V.int .i64 by_:=he 3 _ rfl;have hl_0:e.length=33:=hl;clear he hl;show W A b139 e ⟨E,c⟩ _;unfold F139 at hF;simp only[simprocAttr,R1,b139,hl_0,h0_0,h1_0,h2_0,h3_0];show W A (.block 0 (.loop true b139_1)) _ _ _;rw[W_block];refine W_forR hF _ rfl (fun i s e h=> s.length=row.length∧h=⟨E.set key (uid,some (s.map Enc.enc)),c⟩∧e.length=33∧e.at 0=V.sl key uid 0 row.length 1∧e.at 2=V.int .i64 p∧e.at 3=V.int .i64 by_∧e.at 10=V.isl (other.map Enc.enc)∧e.at 11=V.int .i64 (other.length:Int)∧e.at 12=V.int .i64 i) ?_ ?_ ?_
 ·refine⟨rfl,?_,?_⟩
  ·rw[set_self g1]
  ·simp only[simprocAttr,R1,hl_0,h0_0,h1_0,h2_0,h3_0]
 ·clear hl_0 h0_0 h1_0 h2_0 h3_0
  rintro i s e h ⟨hs,rfl,h_1⟩ hlt hw s' ho;unfold F139_1_B at ho;obtain⟨y,gy,ho⟩:=bS ho;obtain⟨ya,yb⟩:=getI_w gy;have yc:=getI_lt gy;obtain⟨r,gr,ho⟩:=bS ho;obtain⟨ra,rb⟩:=getI_w gr;have rc:=getI_lt gr;obtain⟨q,gq,ho⟩:=bS ho;have wq:=chk_w gq;obtain⟨m,gm,ho⟩:=bS ho;have wm:=chk_w gm;obtain⟨t,gt,ho⟩:=bS ho;have wt:=chk_w gt;obtain⟨z,gz,ho⟩:=bS ho;obtain⟨wz0,wz⟩:=rem_w gz;obtain⟨row2,gs,ho⟩:=bS ho;obtain⟨s1,s2,s3,s4,s5⟩:=setI_w gs;cases ho;have orr:ofCells none (List.drop (Int.toNat i) (s.map Enc.enc))=some (V.int .i64 r):=ofCells_drop (by rw[List.getElem?_map,rb]; rfl);have n1:∀x,(E.set key x)[key]? =some x:=fun x=> set_app_key hk;have s5':List.take (Int.toNat i) (s.map Enc.enc)++[V.int .i64 z]++List.drop (Int.toNat i+1) (s.map Enc.enc)=List.map Enc.enc row2:=s5;have rc':i < (row.length:Int):=by omega
  simp only[simprocAttr,R1,b139_1,h_1,eq_true hlt,hw,ya,yb,ra,eq_true rc',orr,n1,wq,wm,wt,wz0,wz,s3,s5',List.set_set];refine And.intro rfl ⟨by omega,rfl,?_⟩;simp only[simprocAttr,R1,h_1,hw]
 ·clear hl_0 h0_0 h1_0 h2_0 h3_0
  rintro i s e h ⟨hs,rfl,h_1⟩ hge t1 ho;unfold F139_1_D at ho;cases ho;simp only[simprocAttr,R1,b139_1,h_1,eq_false hge];intro ht; subst ht;refine And.intro (fun _=> trivial) ⟨?_,rfl,hs⟩;simp only[simprocAttr,R1,fn_out,p139,mapO];rfl
def F133_1_B(rows:List (List Int))(i:Int)(s:List (List Int)):Option (List (List Int)⊕List (List Int)):=(getI rows i).bind fun r=>(F96 r).bind fun d=>(app 24 s [d]).bind fun l=> some (.inl l)
def F133_1_D(i:Int)(s:List (List Int)):Option (List (List Int)):=some s
def F133_3_B(p b:Int)(k:Int)(row:List Int):Option (List Int⊕List Int):=(getI row k).bind fun x=>(chk (x*b)).bind fun m=>(remI m p).bind fun z=>(setI row k z).bind fun r=> some (.inl r)
def F133_3_D(k:Int)(row:List Int):Option (List Int):=some row
def F133_4_B(p c done:Int)(i:Int)(l:List (List Int)):Option (List (List Int)⊕List (List Int)):=
 if i=done then some (.inl l)else(getI l i).bind fun r=>(getI l done).bind fun o=>(getI r c).bind fun x=>(F139 r o p x).bind fun r'=>(setI l i r').bind fun l'=> some (.inl l')
def F133_4_D(i:Int)(l:List (List Int)):Option (List (List Int)):=some l
def F133_2_B(p:Int)(c:Int)(s:List (List Int)×Int):Option ((List (List Int)×Int)⊕(List (List Int)×Int)):=
 if 0≤s.2∧s.2≤s.1.length then
  (F128 (s.1.drop s.2.toNat) (fun r=> F137 r c)).bind fun at_=>
  if at_ < 0 then some (.inl s)else
  (chk (s.2+at_)).bind fun j=>(getI s.1 j).bind fun a=>(getI s.1 s.2).bind fun b=>(setI s.1 s.2 a).bind fun l1=>(setI l1 j b).bind fun l2=>
  (getI l2 s.2).bind fun row=>(getI row c).bind fun x=>(F138 p x).bind fun by_=>
  (forR 0 (row.length:Int) (F133_3_B p by_) F133_3_D row).bind fun row'=>(setI l2 s.2 row').bind fun l3=>
  (forR 0 (l3.length:Int) (F133_4_B p c s.2) F133_4_D l3).bind fun l4=>(chk (s.2+1)).bind fun d=> if d=(l4.length:Int)then some (.inr (l4,d))else some (.inl (l4,d))
 else none
def F133_2_D(c:Int)(s:List (List Int)×Int):Option (List (List Int)×Int):=some s
def F133(p:Int)(rows:List (List Int)):Option (List (List Int)):=
 (forR 0 (rows.length:Int) (F133_1_B rows) F133_1_D []).bind fun l=> if(l.length:Int)=0 then some l else(getI l 0).bind fun r0=>
 (forR 0 (r0.length:Int) (F133_2_B p) F133_2_D (l,0)).bind fun t=> if 0≤t.2∧t.2≤t.1.length then some (t.1.take t.2.toNat)else none
theorem d133(p:Int)(rows:List (List Int)){r:List (List Int)}(hF:F133 p rows=some r):∃v h',res A 133 [V.int .i64 p,V.isl (rows.map Enc.enc)] Heap.empty=some (v,h')∧
  ∃u vs l,v=V.sl 0 u 0 r.length 1∧h'.ents[0]? =some (u,some vs)∧MatAt h'.ents vs l (fun k=> 1≤k)∧r=l.take r.length:=by
 refine res_dp (f:=p133) rfl rfl rfl fun e hl he=>?_;have h0_0:e.at 0=V.int .i64 p:=he 0 _ rfl;have h1_0:e.at 1=V.isl (rows.map Enc.enc):=he 1 _ rfl;have hl_0:e.length=134:=hl;clear he hl;show W A b133 e ⟨[],0⟩ _;unfold F133 at hF;obtain⟨l0,gl0,hF⟩:=bS hF;simp only[simprocAttr, -Int.reduceNatCast',R1,b133,hl_0,h0_0,h1_0];show W A (.block 0 (.loop true b133_1)) _ _ _;rw[W_block];refine W_forR gl0 _ rfl (fun i s e h=>∃u vs,h.ents[0]? =some (u,some vs)∧MatAt h.ents vs s (fun k=> 1≤k)∧e.length=134∧e.at 0=V.int .i64 p∧e.at 5=V.sl 0 u 0 s.length 1∧e.at 15=V.isl (rows.map Enc.enc)∧e.at 16=V.int .i64 (rows.length:Int)∧e.at 17=V.int .i64 i) ?_ ?_ ?_
 ·refine⟨0,[],rfl,.nil,?_⟩
  simp only[simprocAttr, -Int.reduceNatCast',R1,hl_0,h0_0,h1_0]
 ·clear hl_0 h0_0 h1_0
  rintro i s e ⟨E,c⟩ ⟨u,vs,g1,g2,hl_1,h0_1,h5_1,h15_1,h16_1,h17_1⟩ hlt hw s' ho;unfold F133_1_B at ho;simp only at g1 g2;obtain⟨x,gx,ho⟩:=bS ho;obtain⟨xa,xb⟩:=getI_w gx;obtain⟨d,gd,ho⟩:=bS ho;have wd:=t96 x gd;obtain⟨l,gl,ho⟩:=bS ho;obtain⟨q1,q2,rfl⟩:=app_w gl;have hE:=Option.some.inj ho; subst hE;have hE0:0 < E.length:=(List.getElem?_eq_some_iff.1 g1).1;have w9:∀x y c',appendV 1 24 (.sl 0 u 0 s.length 1) 1 [V.sl E.length c 0 d.length 1] ⟨E++[x]++[y],c'⟩=_:=fun x y c'=> appendV_deep (E:=E++[x]++[y]) (vs:=vs) (by rw[List.append_assoc,List.getElem?_append_left hE0]; exact g1) g2.len (by simpa using q1) (by simpa using q2);simp only[simprocAttr, -Int.reduceNatCast',R1,b133_1,hl_1,h0_1,h5_1,h15_1,h16_1,h17_1,eq_true hlt,hw,xa,xb,wd,callM_tans,thaw_one,le1,get_last,ge2a,ge2b,w9];refine And.intro rfl ⟨_,_,set_app_key (by simp),?_,?_⟩
  ·refine(MatAt.snoc (k:=E.length) (u:=c) (r:=d) (E:=((E++[(c,some (d.map Enc.enc))]++[(c+1,some [V.sl E.length c 0 d.length 1])]).set 0 (c+1+1,some (vs++[V.sl E.length c 0 d.length 1])))) (g2.frame fun k hk hb=>?_) ?_ (by omega) fun i k' u' n hv e=>?_)
   ·rw[set_ne (by omega),List.append_assoc,List.getElem?_append_left hk]
   ·rw[set_ne (by omega)]; exact ge2a ..
   ·subst e
    obtain⟨r,hr⟩:∃r,s[i]? =some r:=⟨s[i]'(by have:=(List.getElem?_eq_some_iff.1 hv).1; have:=g2.len; omega),by simp⟩;obtain⟨k2,u2,e2,g,_⟩:=g2.row i _ r hv hr;cases e2;have:=(List.getElem?_eq_some_iff.1 g).1;omega
  ·simp only[simprocAttr, -Int.reduceNatCast',R1,hl_1,h0_1,h5_1,h15_1,h16_1,h17_1,hw,List.length_append]
 ·clear hl_0 h0_0 h1_0
  rintro i s e ⟨E,c⟩ ⟨u,vs,g1,g2,hl_1,h0_1,h5_1,h15_1,h16_1,h17_1⟩ hge t1 ho;unfold F133_1_D at ho;have hE:=Option.some.inj ho; subst hE;simp only at g1 g2;simp only[simprocAttr, -Int.reduceNatCast',R1,b133_1,hl_1,h0_1,h5_1,h15_1,h16_1,h17_1,eq_false hge];intro ht; subst ht;by_cases hz:(s.length:Int)=0
  ·rw[if_pos hz]at hF ⊢
   have hE:=Option.some.inj hF; subst hE;refine And.intro (fun _=> trivial) ⟨_,?_,u,vs,s,rfl,g1,g2,by rw[List.take_length]⟩;simp only[simprocAttr, -Int.reduceNatCast',R1,fn_out,p133,Rs.ev,hl_1,h5_1]
  ·rw[if_neg hz]at hF ⊢
   obtain⟨r0,gr0,hF⟩:=bS hF;obtain⟨ra,rb⟩:=getI_w gr0;have rc:=getI_lt gr0;obtain⟨t,gt,hF⟩:=bS hF;obtain⟨k0,u0,v1,v2,v3⟩:=g2.get rb;have o1:=ofCells_drop v1;simp only[Int.toNat_zero,List.drop_zero]at o1;simp only[simprocAttr, -Int.reduceNatCast',R1,hl_1,h0_1,h5_1,h15_1,h16_1,h17_1,eq_true rc,g1,o1,Int.toNat_zero,Int.le_refl];show W A (.block 2 (.loop true b133_2)) _ _ _;rw[W_block];refine W_forR gt _ rfl (fun i s e h=>∃u vs,h.ents[0]? =some (u,some vs)∧MatAt h.ents vs s.1 (fun k=> 1≤k)∧e.length=134∧e.at 0=V.int .i64 p∧e.at 5=V.sl 0 u 0 s.1.length 1∧e.at 8=V.int .i64 s.2∧e.at 34=V.int .i64 (r0.length:Int)∧e.at 35=V.int .i64 i) ?_ ?_ ?_
   ·refine⟨u,vs,g1,g2,?_⟩
    simp only[simprocAttr, -Int.reduceNatCast',R1,hl_1,h0_1,h5_1,h15_1,h16_1,h17_1]
   ·clear hl_1 h0_1 h5_1 h15_1 h16_1 h17_1 g1 g2 k0 u0 v1 v2 v3 o1
    rintro cc ⟨l,done⟩ e ⟨E,c⟩ ⟨u,vs,g1,g2,hl_1,h0_1,h5_1,h8_1,h34_1,h35_1⟩ hlt hw s' ho;unfold F133_2_B at ho;simp only at g1 g2 h5_1 h8_1 ho;have hE0:0 < E.length:=(List.getElem?_eq_some_iff.1 g1).1;split at ho
    case isFalse=> cases ho
    rename_i hdn;obtain⟨hd0,hd1⟩:=hdn;have hdn:done.toNat≤l.length:=by omega
    obtain⟨at_,gat,ho⟩:=bS ho;have wat:ans A 128 [V.isl (List.map Enc.enc (l.drop done.toNat)),V.fn 137 [] [V.iptr [V.int .i64 cc]]]=some (V.int .i64 at_):=s128 (l.drop done.toNat) (fun r=> F137 r cc)
     (Clo1.of (by intro h f; simp only[RZ,mapO]) (by intro h f; simp only[RZ,mapO]) (by intro f; simp only[RZ,RB]) (by intro f; simp only[RZ,RB]) (fun x _ hr=> s137 x cc hr)) gat
    have g1':∀x,(E++[x])[0]? =some (u,some vs):=fun x=>(List.getElem?_append_left hE0).trans g1;have g2':∀x,MatAt (E++[x]) vs l (fun k=> 1≤k∧k < E.length):=fun x=>(g2.mono (fun k hk h=> And.intro h hk)).frame fun k hk _=> List.getElem?_append_left hk;have wfz:∀x c,frz ⟨E++[x],c⟩ 16 (V.sl 0 u done.toNat (l.length - done.toNat) 1)=some (V.isl (List.map Enc.enc (l.drop done.toNat))):=fun x c=> by
     have:=(g2' x).fz c (g1' x) (off:=done.toNat) (n:=l.length - done.toNat) (by omega)
     rwa[List.take_of_length_le (by simp)]at this
    have wsl:=slice_lo (key:=0) (uid:=u) (n:=l.length) hd0 (by omega);by_cases hat:at_ < 0
    ·rw[if_pos hat]at ho
     have hE:=Option.some.inj ho; subst hE;simp only[simprocAttr, -Int.reduceNatCast',R1,b133_2,hl_1,h0_1,h5_1,h8_1,h34_1,h35_1,eq_true hlt,hw,Option.map_some,Option.map_none,wsl,wfz,wat,get_last,set_last,eq_true hat];refine And.intro rfl ⟨u,vs,g1' _,(g2' _).mono fun k _ h=> h.1,?_⟩;simp only[simprocAttr, -Int.reduceNatCast',R1,hl_1,h0_1,h5_1,h8_1,h34_1,h35_1,hw]
    ·rw[if_neg hat]at ho
     obtain⟨j,gj,ho⟩:=bS ho;have wj:=chk_w gj;obtain⟨a,ga,ho⟩:=bS ho;obtain⟨aa,ab⟩:=getI_w ga;have ac:=getI_lt ga;obtain⟨b,gb,ho⟩:=bS ho;obtain⟨ba,bb⟩:=getI_w gb;have bc:=getI_lt gb;obtain⟨l1,gl1,ho⟩:=bS ho;have e1:=setI_eq gl1;obtain⟨l2,gl2,ho⟩:=bS ho;have e2:=setI_eq gl2;subst e1; subst e2;obtain⟨row,grow,ho⟩:=bS ho;obtain⟨rowa,rowb⟩:=getI_w grow;obtain⟨x,gx,ho⟩:=bS ho;obtain⟨xa,xb⟩:=getI_w gx;have xc:=getI_lt gx;obtain⟨by_,gby,ho⟩:=bS ho;have wby:ans A 138 [V.int .i64 p,V.int .i64 x]=some (V.int .i64 by_):=s138 p x gby;obtain⟨row',gr',ho⟩:=bS ho;obtain⟨l3,gl3,ho⟩:=bS ho;have e3:=setI_eq gl3;subst e3;obtain⟨l4,gl4,ho⟩:=bS ho;obtain⟨d1,gd1,ho⟩:=bS ho;have wd1:=chk_w gd1;obtain⟨ka,ua,va1,va2,va3⟩:=(g2' (c,some [V.int .i64 cc])).get ab;obtain⟨kb,ub,vb1,vb2,vb3⟩:=(g2' (c,some [V.int .i64 cc])).get bb;have hml:=g2.len;have hsw:=(g2' (c,some [V.int .i64 cc])).swap vb1 va1 bb ab;generalize hvs2:(vs.set done.toNat (V.sl ka ua 0 a.length 1)).set j.toNat (V.sl kb ub 0 b.length 1)=vs2 at hsw;have hl2:((l.set done.toNat a).set j.toNat b).length=l.length:=by simp
     generalize hll2:(l.set done.toNat a).set j.toNat b=l2 at*;have oa:=ofCells_drop va1;have ob:=ofCells_drop vb1;have td1:List.take done.toNat vs++[V.sl ka ua 0 a.length 1]++List.drop (done.toNat+1) vs=vs.set done.toNat (V.sl ka ua 0 a.length 1):=tsd (by omega);have td2:List.take j.toNat (vs.set done.toNat (V.sl ka ua 0 a.length 1))++[V.sl kb ub 0 b.length 1]++List.drop (j.toNat+1) (vs.set done.toNat (V.sl ka ua 0 a.length 1))=vs2:=(tsd (by simp; omega)).trans hvs2;have hd1':done.toNat+1≤vs.length:=by omega
     have hj1':j.toNat+1≤vs.length:=by omega
     have n1:∀y z,((E++[y]).set 0 z)[0]? =some z:=fun y z=> set_app_key (by simp);have n2:∀y z,((E++[y]).set 0 z)[E.length]? =some y:=fun y z=>(set_ne (by omega)).trans (get_last _ _);have hsw2:∀z,MatAt ((E++[(c,some [V.int .i64 cc])]).set 0 z) vs2 l2 (fun k=> 1≤k∧k < E.length):=fun z=> hsw.frame fun k hk h=> set_ne (by omega);obtain⟨kr,ur,vr1,vr2,vr3⟩:=(hsw2 (u,some vs2)).get rowb;have orr:=ofCells_drop vr1;have ox:ofCells none (List.drop cc.toNat (row.map Enc.enc))=some (V.int .i64 x):=ofCells_drop (by rw[List.getElem?_map,xb]; rfl);have hvl:vs2.length=l.length:=by rw[hsw.len,hl2]
     simp only[simprocAttr, -Int.reduceNatCast',R1,b133_2,hl_1,h0_1,h5_1,h8_1,h34_1,h35_1,eq_true hlt,hw,Option.map_some,Option.map_none,wsl,wfz,wat,get_last,set_last,eq_false hat,wj,aa,eq_true ac,ba,eq_true bc,g1',oa,ob,List.length_set,eq_true hd1',eq_true hj1',td1,td2,List.set_set,n1,n2,orr,xa,eq_true xc,vr2,ox,wby];have hd1v:d1=done+1:=by
      unfold chk at gd1; split at gd1
      ·cases gd1; rfl
      ·cases gd1
     have kr0:1≤kr:=vr3.1;have krE:kr < E.length:=vr3.2;have m0:∀z,(((E++[(c,some [V.int .i64 cc])]).set 0 (u,some vs2)).set kr z)[0]? =some (u,some vs2):=fun z=>(set_ne (by omega)).trans (n1 _ _);have mk:∀z,(((E++[(c,some [V.int .i64 cc])]).set 0 (u,some vs2)).set kr z)[kr]? =some z:=fun z=> set_app_key (by simp; omega);have mN:∀z,(((E++[(c,some [V.int .i64 cc])]).set 0 (u,some vs2)).set kr z)[E.length]? =some (c,some [V.int .i64 cc]):=fun z=>(set_ne (by omega)).trans (n2 _ _);have hdl:done < (l.length:Int):=by omega
     show W A (.block 4 (.loop true b133_3)) _ _ _;rw[W_block];refine W_forR gr' _ rfl (fun k s e h=> s.length=row.length∧h=⟨((E++[(c,some [V.int .i64 cc])]).set 0 (u,some vs2)).set kr (ur,some (s.map Enc.enc)),c+1⟩∧e.length=134∧e.at 0=V.int .i64 p∧e.at 5=V.sl 0 u 0 l.length 1∧e.at 8=V.int .i64 done∧e.at 9=V.ptr E.length c 0∧e.at 11=V.int .i64 by_∧e.at 34=V.int .i64 (r0.length:Int)∧e.at 35=V.int .i64 cc∧e.at 76=V.int .i64 (row.length:Int)∧e.at 77=V.int .i64 k) ?_ ?_ ?_
     ·refine⟨rfl,by rw[set_self vr2],?_⟩
      simp only[simprocAttr, -Int.reduceNatCast',R1,hl_1,h0_1,h5_1,h8_1,h34_1,h35_1]
     ·clear hl_1 h0_1 h5_1 h8_1 h34_1 h35_1
      rintro k q e h ⟨hq,rfl,hl_1,h0_1,h5_1,h8_1,h9_1,h11_1,h34_1,h35_1,h76_1,h77_1⟩ hlt3 hw3 s3 ho3;unfold F133_3_B at ho3;obtain⟨x3,gx3,ho3⟩:=bS ho3;obtain⟨x3a,x3b⟩:=getI_w gx3;obtain⟨m3,gm3,ho3⟩:=bS ho3;have wm3:=chk_w gm3;obtain⟨z3,gz3,ho3⟩:=bS ho3;obtain⟨wz30,wz3⟩:=rem_w gz3;obtain⟨q2,gq2,ho3⟩:=bS ho3;obtain⟨s31,s32,s33,s34,s35⟩:=setI_w gq2;have hE:=Option.some.inj ho3; subst hE;have o3:ofCells none (List.drop k.toNat (q.map Enc.enc))=some (V.int .i64 x3):=ofCells_drop (by rw[List.getElem?_map,x3b]; rfl);have hk3:k < (row.length:Int):=hlt3;have s35':List.take k.toNat (q.map Enc.enc)++[V.int .i64 z3]++List.drop (k.toNat+1) (q.map Enc.enc)=List.map Enc.enc q2:=s35;simp only[simprocAttr, -Int.reduceNatCast',R1,b133_3,hl_1,h0_1,h5_1,h8_1,h9_1,h11_1,h34_1,h35_1,h76_1,h77_1,hw3,eq_true hlt3,hd0,eq_true hdl,m0,mk,orr,x3a,o3,wm3,wz30,wz3,s33,s35',List.set_set];refine And.intro rfl ⟨by omega,rfl,?_⟩;simp only[simprocAttr, -Int.reduceNatCast',R1,hl_1,h0_1,h5_1,h8_1,h9_1,h11_1,h34_1,h35_1,h76_1,h77_1,hw3]
     ·clear hl_1 h0_1 h5_1 h8_1 h34_1 h35_1
      rintro k q e h ⟨hq,rfl,hl_1,h0_1,h5_1,h8_1,h9_1,h11_1,h34_1,h35_1,h76_1,h77_1⟩ hge3 t3 ho3;unfold F133_3_D at ho3;have hE:=Option.some.inj ho3; subst hE;simp only[simprocAttr, -Int.reduceNatCast',R1,b133_3,hl_1,h0_1,h5_1,h8_1,h9_1,h11_1,h34_1,h35_1,h76_1,h77_1,eq_false hge3];intro ht; subst ht;have hmw:=MatAt.write (hsw2 (u,some vs2)) rowb vr1 hq;have hl3:((l2.set done.toNat q).length:Int)=(l.length:Int):=by rw[List.length_set,hl2]
      rw[hl3]at gl4;show W A (.block 6 (.loop true b133_4)) _ _ _;rw[W_block];refine W_forR gl4 _ rfl (fun i s e h=> s.length=l.length∧h.ents[0]? =some (u,some vs2)∧MatAt h.ents vs2 s (fun k=> 1≤k∧k < E.length)∧h.ents[E.length]? =some (c,some [V.int .i64 cc])∧e.length=134∧e.at 0=V.int .i64 p∧e.at 5=V.sl 0 u 0 l.length 1∧e.at 8=V.int .i64 done∧e.at 9=V.ptr E.length c 0∧e.at 34=V.int .i64 (r0.length:Int)∧e.at 35=V.int .i64 cc∧e.at 99=V.int .i64 (l.length:Int)∧e.at 100=V.int .i64 i) ?_ ?_ ?_
      ·refine⟨by omega,m0 _,hmw,mN _,?_⟩
       simp only[simprocAttr, -Int.reduceNatCast',R1,hl_1,h0_1,h5_1,h8_1,h9_1,h11_1,h34_1,h35_1,h76_1,h77_1]
      ·clear hl_1 h0_1 h5_1 h8_1 h9_1 h11_1 h34_1 h35_1 h76_1 h77_1
       rintro i q4 e ⟨E4,c4⟩ ⟨hq4,f1,f2,f3,hl_1,h0_1,h5_1,h8_1,h9_1,h34_1,h35_1,h99_1,h100_1⟩ hlt4 hw4 s4 ho4;unfold F133_4_B at ho4;simp only at f1 f2 f3;by_cases hi:i=done
       ·rw[if_pos hi]at ho4
        have hE:=Option.some.inj ho4; subst hE;simp only[simprocAttr, -Int.reduceNatCast',R1,b133_4,hl_1,h0_1,h5_1,h8_1,h9_1,h34_1,h35_1,h99_1,h100_1,hw4,eq_true hlt4,eq_true hi];refine And.intro rfl ⟨hq4,f1,f2,f3,?_⟩;simp only[simprocAttr, -Int.reduceNatCast',R1,hl_1,h0_1,h5_1,h8_1,h9_1,h34_1,h35_1,h99_1,h100_1,hw4]
       ·rw[if_neg hi]at ho4
        obtain⟨ri,gri,ho4⟩:=bS ho4;obtain⟨ria,rib⟩:=getI_w gri;obtain⟨oi,goi,ho4⟩:=bS ho4;obtain⟨oia,oib⟩:=getI_w goi;obtain⟨xi,gxi,ho4⟩:=bS ho4;obtain⟨xia,xib⟩:=getI_w gxi;have xic:=getI_lt gxi;obtain⟨r',gr'',ho4⟩:=bS ho4;obtain⟨l',gl',ho4⟩:=bS ho4;have e4:=setI_eq gl';subst e4;have hE:=Option.some.inj ho4; subst hE;obtain⟨ki,ui,vi1,vi2,vi3⟩:=f2.get rib;obtain⟨ko,uo,vo1,vo2,vo3⟩:=f2.get oib;have hko:ko≠ki:=fun q=> hi (by have:=f2.inj _ _ _ _ _ _ _ _ vo1 vi1 q; omega);have oi1:=ofCells_drop vi1;have oo1:=ofCells_drop vo1;have ox1:ofCells none (List.drop cc.toNat (ri.map Enc.enc))=some (V.int .i64 xi):=ofCells_drop (by rw[List.getElem?_map,xib]; rfl);obtain⟨wc,wcl⟩:=d139 gr'' E4 c4 vi2 vo2 hko;have hi4:i < (l.length:Int):=hlt4;simp only[simprocAttr, -Int.reduceNatCast',R1,b133_4,hl_1,h0_1,h5_1,h8_1,h9_1,h34_1,h35_1,h99_1,h100_1,hw4,eq_true hlt4,eq_false hi,hd0,eq_true hdl,ria,f1,f3,oi1,oo1,vi2,xia,eq_true xic,ox1,callM_plain_eq,wc];refine And.intro rfl ⟨by rw[List.length_set]; exact hq4,(set_ne (by omega)).trans f1,f2.write rib vi1 wcl,(set_ne (by omega)).trans f3,?_⟩;simp only[simprocAttr, -Int.reduceNatCast',R1,hl_1,h0_1,h5_1,h8_1,h9_1,h34_1,h35_1,h99_1,h100_1,hw4]
      ·clear hl_1 h0_1 h5_1 h8_1 h9_1 h11_1 h34_1 h35_1 h76_1 h77_1
       rintro i q4 e ⟨E4,c4⟩ ⟨hq4,f1,f2,f3,hl_1,h0_1,h5_1,h8_1,h9_1,h34_1,h35_1,h99_1,h100_1⟩ hge4 t4 ho4;unfold F133_4_D at ho4;have hE:=Option.some.inj ho4; subst hE;simp only at f1 f2 f3;have wd1':Go.IntKind.wrap .i64 (done+1)=d1:=wd1;by_cases hb:d1=(q4.length:Int)
       ·have hb':d1=(l.length:Int):=by omega
        have wsh:=slice_hi (key:=0) (uid:=u) (n:=l.length) (d:=d1) (by omega) (by omega);simp only[simprocAttr, -Int.reduceNatCast',R1,b133_4,hl_1,h0_1,h5_1,h8_1,h9_1,h34_1,h35_1,h99_1,h100_1,eq_false hge4,wd1',eq_true hb',Option.map_some,Option.map_none,wsh];intro ht; subst ht;rw[if_pos hb]at ho;have hE:=Option.some.inj ho; subst hE;intro ht; subst ht;simp only[simprocAttr, -Int.reduceNatCast',R1,hl_1,h0_1,h5_1,h8_1,h9_1,h34_1,h35_1,h99_1,h100_1,Option.map_some,Option.map_none,wsh];simp only at hF;rw[if_pos ⟨by omega,by omega⟩]at hF;have hE:=Option.some.inj hF; subst hE;have hrl:(q4.take d1.toNat).length=d1.toNat:=by simp; omega
        refine And.intro (fun _=> trivial) ⟨_,?_,u,vs2,q4,rfl,f1,f2.mono fun k _ h=> h.1,by rw[hrl]⟩;simp only[simprocAttr, -Int.reduceNatCast',R1,fn_out,p133,Rs.ev,hl_1,hrl]
       ·have hb':¬d1=(l.length:Int):=by omega
        simp only[simprocAttr, -Int.reduceNatCast',R1,b133_4,hl_1,h0_1,h5_1,h8_1,h9_1,h34_1,h35_1,h99_1,h100_1,eq_false hge4,wd1',eq_false hb',hw];intro ht; subst ht;rw[if_neg hb]at ho;have hE:=Option.some.inj ho; subst hE;refine And.intro rfl ⟨u,vs2,f1,f2.mono fun k _ h=> h.1,?_⟩;simp only[simprocAttr, -Int.reduceNatCast',R1,hl_1,h0_1,h5_1,h8_1,h9_1,h34_1,h35_1,h99_1,h100_1,hq4]
   ·clear hl_1 h0_1 h5_1 h15_1 h16_1 h17_1 g1 g2 k0 u0 v1 v2 v3 o1
    rintro cc ⟨l,done⟩ e ⟨E,c⟩ ⟨u,vs,g1,g2,hl_1,h0_1,h5_1,h8_1,h34_1,h35_1⟩ hge t1 ho;unfold F133_2_D at ho;have hE:=Option.some.inj ho; subst hE;simp only at g1 g2 h5_1 h8_1;simp only[simprocAttr, -Int.reduceNatCast',R1,b133_2,hl_1,h0_1,h5_1,h8_1,h34_1,h35_1,eq_false hge,Option.map_some,Option.map_none];intro ht; subst ht;simp only at hF;split at hF
    case isFalse=> cases hF
    rename_i hdn;have wsh:=slice_hi (key:=0) (uid:=u) (n:=l.length) (d:=done) hdn.1 (by omega);have hE:=Option.some.inj hF; subst hE;have hrl:(l.take done.toNat).length=done.toNat:=by simp; omega
    simp only[simprocAttr, -Int.reduceNatCast',R1,hl_1,wsh];refine And.intro (fun _=> trivial) ⟨_,?_,u,vs,l,rfl,g1,g2,by rw[hrl]⟩;simp only[simprocAttr, -Int.reduceNatCast',R1,fn_out,p133,Rs.ev,hl_1,hrl]
theorem s133(p:Int)(rows:List (List Int)){r:List (List Int)}(hF:F133 p rows=some r):ans A 133 [V.int .i64 p,V.isl (rows.map Enc.enc)]=some (Enc.enc r):=by
 obtain⟨_,h',h1,u,vs,l,rfl,h2,h3,h4⟩:=d133 p rows hF;have hl:r.length≤l.length:=by have:=congrArg List.length h4; simp at this; omega
 have:=h3.fz h'.clk (key:=0) (uid:=u) (off:=0) (n:=r.length) h2 (by omega);rw[List.drop_zero,←h4]at this;unfold ans;rw[h1];exact this
theorem mtk133(f:Nat):∀ (ws:List V) (q:List (List Int)) (h:Heap),ws.length=q.length→(∀ (i:Nat) v r,ws[i]? =some v→q[i]? =some r→∃k u,v= .sl k u 0 r.length 1∧h.ents[k]? =some (u,some (r.map Enc.enc)))→
  (∀ (i j k u n k' u' n':Nat),ws[i]? =some (.sl k u 0 n 1)→ws[j]? =some (.sl k' u' 0 n' 1)→k=k'→i=j)→∃h',mapS (take (f+2) [1]) ws h=some (q.map Enc.enc,h')
 | [],[],h,_,_,_=>⟨h,rfl⟩
 |v::ws,r::q,h,hl,hr,hi=> by
  obtain⟨k,u,rfl,g⟩:=hr 0 v r rfl rfl;have e:(List.map (Enc.enc:Int→V) r).take r.length=r.map Enc.enc:=List.take_of_length_le (by simp);have ht:take (f+2) [1] (.sl k u 0 r.length 1) h=some (Enc.enc r,h.kill k):=by
   simp only[take,get_of g,Nat.mul_one,Nat.zero_add,List.drop_zero,List.tail_cons];rw[if_pos ⟨by simp,by omega,by simp[hdOk]⟩,e,take_ints f []];simp only[chunk_1];rfl
  obtain⟨h',h2⟩:=mtk133 f ws q (h.kill k) (by simpa using hl) (fun i v' r' a b=> by
   obtain⟨k',u',e',g'⟩:=hr (i+1) v' r' (by simpa using a) (by simpa using b);refine⟨k',u',e',?_⟩;rw[kill_ne h fun q=>?_]
   ·exact g'
   ·subst e'; subst q
    have:=hi (i+1) 0 _ _ _ _ _ _ (by simpa using a) rfl rfl;omega) (fun i j k1 u1 n1 k2 u2 n2 a b c=> by
   have:=hi (i+1) (j+1) _ _ _ _ _ _ (by simpa using a) (by simpa using b) c;omega)
  exact⟨h',by simp only[mapS,ht,h2,List.map_cons]⟩
theorem mtt133{E:List (Nat×Option (List V))}{vs:List V}{l:List (List Int)}{B:Ks}(m:MatAt E vs l B)(c:Nat){key uid n:Nat}(hk:E[key]? =some (uid,some vs))(hB:¬B key)(hn:n≤l.length):∃h',take 16 [1,1] (.sl key uid 0 n 1) ⟨E,c⟩=some (.isl ((l.take n).map Enc.enc),h'):=by
 have hl:=m.len;obtain⟨h',h2⟩:=mtk133 13 (vs.take n) (l.take n) ((⟨E,c⟩:Heap).kill key) (by simp[hl]) (fun i v r a b=> by
  rw[List.getElem?_take]at a b;split at a
  ·rename_i hi
   rw[if_pos hi]at b;obtain⟨k,u,e,g,hb⟩:=m.row i v r a b;exact⟨k,u,e,by rw[kill_ne _ fun q=> by subst q; exact hB hb]; exact g⟩
  ·cases a) (fun i j k u n1 k' u' n2 a b e=> by
  rw[List.getElem?_take]at a b;split at a
  ·split at b
   ·exact m.inj i j _ _ _ _ _ _ a b e
   ·cases b
  ·cases a)
 refine⟨h',?_⟩;simp only[take,get_of (h:=⟨E,c⟩) hk,Nat.mul_one,Nat.zero_add,List.drop_zero,List.tail_cons];rw[if_pos ⟨by omega,by omega,by simp[hdOk]⟩,h2];simp only[chunk_1]
theorem x133(p:Int)(rows:List (List Int)){r:List (List Int)}(hF:F133 p rows=some r):tans A 133 [1,1] [V.int .i64 p,V.isl (rows.map Enc.enc)]=some (Enc.enc r):=by
 obtain⟨_,h',h1,u,vs,l,rfl,h2,h3,h4⟩:=d133 p rows hF;have hl:r.length≤l.length:=by have:=congrArg List.length h4; simp at this; omega
 obtain⟨h2',q⟩:=mtt133 h3 h'.clk (key:=0) (uid:=u) (n:=r.length) h2 (by decide) hl;rw[←h4]at q;unfold tans;rw[h1];show(match take 16 [1,1] (V.sl 0 u 0 r.length 1) ⟨h'.ents,h'.clk⟩with|some (t,_)=> some t|none=> none)=_;rw[q];rfl
def F125_1_B(a0:Int)(a1:List (List Int))(x2:List Int)(v25_1:Int)(o0_1:(List (List Int))):Option (((List (List Int)))⊕((List (List Int)))):=
 (getI a1 v25_1).bind fun x8=>
(F96 x8).bind fun x10=>
(appZ 8 x10 (a1.length:Int) 0).bind fun l13=>
(chk ((x2.length:Int)+v25_1)).bind fun x14=>
(getI l13 x14).bind fun x15=>
(setI l13 x14 1).bind fun l17=>
(app 24 o0_1 [l17]).bind fun l20=>
some (.inl l20)
def F125_1_D(a0:Int)(a1:List (List Int))(x2:List Int)(v25_1:Int)(o0_1:(List (List Int))):Option ((List (List Int))):=
 some o0_1
def F125_2_B(a0:Int)(x2:List Int)(x22:List (List Int))(v49_2:Int)(o1_2:(List (List Int))):Option (((List (List Int)))⊕((List (List Int)))):=
 (getI x22 v49_2).bind fun x28=>
(slI x28 0 (x2.length:Int)).bind fun l30=>
(F92 l30).bind fun x32=>
if x32=true then
 (slI x28 (x2.length:Int) (x28.length:Int)).bind fun l34=>
 (app 24 o1_2 [l34]).bind fun l37=>
 some (.inl l37)
else
 some (.inl o1_2)
def F125_2_D(a0:Int)(x2:List Int)(x22:List (List Int))(v49_2:Int)(o1_2:(List (List Int))):Option ((List (List Int))):=
 some o1_2
def F125(a0:Int)(a1:List (List Int)):Option (List (List Int)):=
 if(a1.length:Int)=0 then
  some ([]:List (List Int))
 else
  (getI a1 0).bind fun x2=>
  (forR 0 (a1.length:Int) (F125_1_B a0 a1 x2) (F125_1_D a0 a1 x2) ([]:(List (List Int)))).bind fun zo0_1=>
  (F133 a0 zo0_1).bind fun x22=>
  (forR 0 (x22.length:Int) (F125_2_B a0 x2 x22) (F125_2_D a0 x2 x22) ([]:(List (List Int)))).bind fun zo1_2=>
  (F133 a0 zo1_2).bind fun x39=>
  some x39
def I125_1(a0:Int)(a1:List (List Int))(x2:List Int)(v25_1:Int)(o0_1:(List (List Int)))(e:Env)(h:Heap):Prop:=
 ∃u5 k6:Nat,h=⟨[(u5,some (o0_1.map Enc.enc))],k6⟩∧e.length=67∧e.at 0=V.int .i64 a0∧e.at 5=V.int .i64 (a1.length:Int)∧e.at 6=V.int .i64 (x2.length:Int)∧e.at 7=V.sl 0 u5 0 o0_1.length 1∧e.at 23=V.isl (a1.map Enc.enc)∧e.at 24=V.int .i64 (a1.length:Int)∧e.at 25=V.int .i64 v25_1
def P125_1(a0:Int)(a1:List (List Int))(x2:List Int)(zo0_1:(List (List Int)))(x:Ex)(e:Env)(h:Heap):Prop:=
 x= .normal∧∃u5 k6:Nat,h=⟨[(u5,some (zo0_1.map Enc.enc))],k6⟩∧e.length=67∧e.at 0=V.int .i64 a0∧e.at 6=V.int .i64 (x2.length:Int)∧e.at 7=V.sl 0 u5 0 zo0_1.length 1
theorem l125_1(a0:Int)(a1:List (List Int))(x2:List Int){lo:Int}{s:(List (List Int))}{t:(List (List Int))}(hF:forR lo (a1.length:Int) (F125_1_B a0 a1 x2) (F125_1_D a0 a1 x2) s=some t){e:Env}{h:Heap}(hI:I125_1 a0 a1 x2 lo s e h):W A c125_1 e h (P125_1 a0 a1 x2 t):=by
 show W A (.block 0 (.loop false b125_1)) e h _;rw[W_block];refine W_forR hF 1 (by obtain⟨_,_,rfl,_⟩:=hI; rfl) (I125_1 a0 a1 x2) hI ?_ ?_
 ·rintro v25_1 o0_1 e h ⟨u5,k6,rfl,h_4⟩ hlt hw o ho
  unfold F125_1_B at ho;obtain⟨x8,gx8,ho⟩:=bS ho;obtain⟨w9a,w9b⟩:=getI_w gx8;obtain⟨x10,gx10,ho⟩:=bS ho;have w11:tans A 96 [1] [V.isl (x8.map Enc.enc)]=some (V.isl (x10.map Enc.enc)):=t96 x8 gx10;have w11t:=thaw_one (α:=Int) x10;obtain⟨l13,gl13,ho⟩:=bS ho;obtain⟨w12a,w12b,w12c,w12d,w12e,w12f⟩:=appZ_w gl13;replace w12f:List.map Enc.enc (List.replicate (Int.toNat (a1.length:Int)) (0:Int))=(List.replicate (Int.toNat (a1.length:Int)) [V.int .i64 0]).flatten:=w12f;have w12:=fun a b c d e=> appendV_w (α:=Int) (n:=x10.length) (m:=(Int.toNat (a1.length:Int))) (ds:=(List.replicate (Int.toNat (a1.length:Int)) [V.int .i64 0]).flatten) w12d (by first|rfl|simp) w12e w12f a b c d e;have w12l:=app_len w12d;obtain⟨x14,gx14,ho⟩:=bS ho;have wx14:=chk_w gx14;obtain⟨x15,gx15,ho⟩:=bS ho;obtain⟨w16a,w16b⟩:=getI_w gx15;have w16c:=getI_lt gx15;have w16d:List.drop (Int.toNat x14) (l13.map Enc.enc)=(V.int .i64 x15)::List.drop ((Int.toNat x14)+1) (l13.map Enc.enc):=drop_enc w16b;obtain⟨l17,gl17,ho⟩:=bS ho;obtain⟨w18a,w18b,w18c,w18d,w18e⟩:=setI_w gl17;replace w18e:List.take (Int.toNat x14) (l13.map Enc.enc)++[V.int .i64 1]++List.drop (Int.toNat x14+1) (l13.map Enc.enc)=List.map Enc.enc l17:=w18e;obtain⟨l20,gl20,ho⟩:=bS ho;have w19:=fun a b c d e=> appendV_w (α:=List Int) (n:=o0_1.length) (m:=1) (ds:=[V.isl (l17.map Enc.enc)]) gl20 (by first|rfl|simp only[w18d]) (by first|rfl|simp only[w18d]) rfl a b c d e;have w19l:=app_len gl20;cases ho;simp only[simprocAttr, -Int.reduceNatCast',R0,b125_1,h_4,eq_true hlt,hw,w9a,w9b,w11,w11t,w12a,w12b,w12c,w12,wx14,w16a,w16b,w16c,w16d,w18a,w18b,w18c,w18e,takes (α:=Int) l17,take_len (α:=Int) (l:=l17) (n:=l13.length) (by first|rfl|simp only[w18d]),le_of_len (α:=Int) (l:=l17) (n:=l13.length) (by first|rfl|simp only[w18d]),w19];refine And.intro rfl (Exists.intro _ (Exists.intro _ (And.intro rfl ?_)));simp only[simprocAttr, -Int.reduceNatCast',R0,h_4,eq_true hlt,hw,w9a,w9b,w11,w11t,w12a,w12b,w12c,w12,wx14,w16a,w16b,w16c,w16d,w18a,w18b,w18c,w18e,takes (α:=Int) l17,take_len (α:=Int) (l:=l17) (n:=l13.length) (by first|rfl|simp only[w18d]),le_of_len (α:=Int) (l:=l17) (n:=l13.length) (by first|rfl|simp only[w18d]),w19,w18d]
 ·rintro v25_1 o0_1 e h ⟨u5,k6,rfl,h_4⟩ hge t1 ho
  unfold F125_1_D at ho;cases ho;simp only[simprocAttr, -Int.reduceNatCast',R0,b125_1,h_4,eq_false hge];intro ht; subst ht;refine And.intro rfl (Exists.intro _ (Exists.intro _ (And.intro rfl ?_)));simp only[simprocAttr, -Int.reduceNatCast',R0,h_4,eq_false hge]
def I125_2(a0:Int)(x2:List Int)(x22:List (List Int))(v49_2:Int)(o1_2:(List (List Int)))(e:Env)(h:Heap):Prop:=
 ∃u25 k26:Nat,h=⟨[(0,none),(u25,some (o1_2.map Enc.enc))],k26⟩∧e.length=67∧e.at 0=V.int .i64 a0∧e.at 6=V.int .i64 (x2.length:Int)∧e.at 11=V.sl 1 u25 0 o1_2.length 1∧e.at 47=V.isl (x22.map Enc.enc)∧e.at 48=V.int .i64 (x22.length:Int)∧e.at 49=V.int .i64 v49_2
def P125_2(a0:Int)(x2:List Int)(x22:List (List Int))(zo1_2:(List (List Int)))(x:Ex)(e:Env)(h:Heap):Prop:=
 x= .normal∧∃u25 k26:Nat,h=⟨[(0,none),(u25,some (zo1_2.map Enc.enc))],k26⟩∧e.length=67∧e.at 0=V.int .i64 a0∧e.at 11=V.sl 1 u25 0 zo1_2.length 1
theorem l125_2(a0:Int)(x2:List Int)(x22:List (List Int)){lo:Int}{s:(List (List Int))}{t:(List (List Int))}(hF:forR lo (x22.length:Int) (F125_2_B a0 x2 x22) (F125_2_D a0 x2 x22) s=some t){e:Env}{h:Heap}(hI:I125_2 a0 x2 x22 lo s e h):W A c125_2 e h (P125_2 a0 x2 x22 t):=by
 show W A (.block 2 (.loop false b125_2)) e h _;rw[W_block];refine W_forR hF 2 (by obtain⟨_,_,rfl,_⟩:=hI; rfl) (I125_2 a0 x2 x22) hI ?_ ?_
 ·rintro v49_2 o1_2 e h ⟨u25,k26,rfl,h_24⟩ hlt hw o ho
  unfold F125_2_B at ho;obtain⟨x28,gx28,ho⟩:=bS ho;obtain⟨w29a,w29b⟩:=getI_w gx28;obtain⟨l30,gl30,ho⟩:=bS ho;have w31:sliceV 1 (V.isl (x28.map Enc.enc)) none (some (V.int .i64 (x2.length:Int)))=some (V.isl (l30.map Enc.enc)):=sliceV_w (α:=Int) One.one gl30 (.inl ⟨rfl,rfl⟩) (.inr rfl);obtain⟨x32,gx32,ho⟩:=bS ho;have w33:ans A 92 [V.isl (l30.map Enc.enc)]=some (V.bool x32):=s92 l30 gx32;cases x32 with
  |true=>
   rw[if_pos rfl]at ho;obtain⟨l34,gl34,ho⟩:=bS ho;have w35:sliceV 1 (V.isl (x28.map Enc.enc)) (some (V.int .i64 (x2.length:Int))) none=some (V.isl (l34.map Enc.enc)):=sliceV_w (α:=Int) One.one gl34 (.inr rfl) (.inl ⟨rfl,rfl⟩);obtain⟨l37,gl37,ho⟩:=bS ho;have w36:=fun a b c d e=> appendV_w (α:=List Int) (n:=o1_2.length) (m:=1) (ds:=[V.isl (l34.map Enc.enc)]) gl37 (by first|rfl|simp) (by first|rfl|simp) rfl a b c d e;have w36l:=app_len gl37;cases ho;simp only[simprocAttr,R0,b125_2,h_24,eq_true hlt,hw,w29a,w29b,w31,w33,w35,w36];refine And.intro rfl (Exists.intro _ (Exists.intro _ (And.intro rfl ?_)));simp only[simprocAttr,R0,h_24,eq_true hlt,hw,w29a,w29b,w31,w33,w35,w36]
  |false=>
   rw[if_neg Bool.false_ne_true]at ho;cases ho;simp only[simprocAttr,R0,b125_2,h_24,eq_true hlt,hw,w29a,w29b,w31,w33];refine And.intro rfl (Exists.intro _ (Exists.intro _ (And.intro rfl ?_)));simp only[simprocAttr,R0,h_24,eq_true hlt,hw,w29a,w29b,w31,w33]
 ·rintro v49_2 o1_2 e h ⟨u25,k26,rfl,h_24⟩ hge t1 ho
  unfold F125_2_D at ho;cases ho;simp only[simprocAttr,R0,b125_2,h_24,eq_false hge];intro ht; subst ht;refine And.intro rfl (Exists.intro _ (Exists.intro _ (And.intro rfl ?_)));simp only[simprocAttr,R0,h_24,eq_false hge]
theorem s125(a0:Int)(a1:List (List Int)){r:List (List Int)}(hF:F125 a0 a1=some r):ans A 125 [V.int .i64 a0,V.isl (a1.map Enc.enc)]=some (Enc.enc r):=by
 refine ans_of (f:=p125) rfl rfl rfl fun e hl he=>?_;have h0_0:e.at 0=V.int .i64 a0:=he 0 _ rfl;have h1_0:e.at 1=V.isl (a1.map Enc.enc):=he 1 _ rfl;have hl_0:e.length=67:=hl;clear he hl;have h_0:=And.intro hl_0 (And.intro h0_0 h1_0);show W A b125 e ⟨[],0⟩ _;unfold F125 at hF;by_cases c1:(a1.length:Int)=0
 ·rw[if_pos c1]at hF
  cases hF;simp only[simprocAttr,R0,b125,h_0,eq_true c1];exact fin_ret (by simp only[simprocAttr,R0,fn_out,p125,Rs.ev,take_len_self,h_0,eq_true c1])
 ·rw[if_neg c1]at hF
  obtain⟨x2,gx2,hF⟩:=bS hF;obtain⟨w3a,w3b⟩:=getI_w gx2;replace w3b:a1[0]? =some x2:=w3b;obtain⟨zo0_1,gt21,hF⟩:=bS hF;simp only[simprocAttr,R0,b125,h_0,eq_false c1,w3a,w3b];refine W.mono (l125_1 a0 a1 x2 gt21 (Exists.intro _ (Exists.intro _ (And.intro rfl ?_)))) ?_
  ·simp only[simprocAttr,R0,h_0,eq_false c1,w3a,w3b]
  rintro _ e _ ⟨rfl,u5,k6,rfl,h_7⟩;obtain⟨x22,gx22,hF⟩:=bS hF;have w23:ans A 133 [V.int .i64 a0,V.isl (zo0_1.map Enc.enc)]=some (V.isl (x22.map Enc.enc)):=s133 a0 zo0_1 gx22;obtain⟨zo1_2,gt38,hF⟩:=bS hF;simp only[simprocAttr,R0,h_7,eq_false c1,takes (α:=List Int) zo0_1,w23];refine W.mono (l125_2 a0 x2 x22 gt38 (Exists.intro _ (Exists.intro _ (And.intro rfl ?_)))) ?_
  ·simp only[simprocAttr,R0,h_7,eq_false c1,takes (α:=List Int) zo0_1,w23]
  rintro _ e _ ⟨rfl,u25,k26,rfl,h_27⟩;obtain⟨x39,gx39,hF⟩:=bS hF;have w40:ans A 133 [V.int .i64 a0,V.isl (zo1_2.map Enc.enc)]=some (V.isl (x39.map Enc.enc)):=s133 a0 zo1_2 gx39;cases hF;simp only[simprocAttr,R0,h_27,eq_false c1,takes (α:=List Int) zo1_2,w40];exact fin_ret (by simp only[simprocAttr,R0,fn_out,p125,Rs.ev,take_len_self,h_27,eq_false c1,takes (α:=List Int) zo1_2,w40])
def F100(a0:GComplex)(a1:Int):Option (List (List Int)):=
 if a1≤0 then
  (F102 a0 a1).bind fun x2=>
  (F124 x2).bind fun x4=>
  some x4
 else
  (F86 a0).bind fun x6=>
  if x6 < a1 then
   (F102 a0 a1).bind fun x9=>
   (F124 x9).bind fun x11=>
   some x11
  else
   (chk (a1 - 1)).bind fun x13=>
   (getI a0.Maps x13).bind fun x14=>
   (F125 a0.Prime x14).bind fun x16=>
   some x16
theorem s100(a0:GComplex)(a1:Int){r:List (List Int)}(hF:F100 a0 a1=some r):ans A 100 [(eC a0),V.int .i64 a1]=some (Enc.enc r):=by
 refine ans_of (f:=p100) rfl rfl rfl fun e hl he=>?_;have h0_0:e.at 0=(eC a0):=he 0 _ rfl;have h1_0:e.at 1=V.int .i64 a1:=he 1 _ rfl;have hl_0:e.length=26:=hl;clear he hl;have h_0:=And.intro hl_0 (And.intro h0_0 h1_0);show W A b100 e ⟨[],0⟩ _;unfold F100 at hF;by_cases c1:a1≤0
 ·rw[if_pos c1]at hF
  obtain⟨x2,gx2,hF⟩:=bS hF;have w3:ans A 102 [(eC a0),V.int .i64 a1]=some (V.int .i64 x2):=s102 a0 a1 gx2;obtain⟨x4,gx4,hF⟩:=bS hF;have w5:ans A 124 [V.int .i64 x2]=some (V.isl (x4.map Enc.enc)):=s124 x2 gx4;cases hF;simp only[simprocAttr,R0,b100,h_0,eq_true c1,w3,w5];exact fin_ret (by simp only[simprocAttr,R0,fn_out,p100,Rs.ev,take_len_self,h_0,eq_true c1,w3,w5])
 ·rw[if_neg c1]at hF
  obtain⟨x6,gx6,hF⟩:=bS hF;have w7:ans A 86 [(eC a0)]=some (V.int .i64 x6):=s86 a0 gx6;by_cases c8:x6 < a1
  ·rw[if_pos c8]at hF
   obtain⟨x9,gx9,hF⟩:=bS hF;have w10:ans A 102 [(eC a0),V.int .i64 a1]=some (V.int .i64 x9):=s102 a0 a1 gx9;obtain⟨x11,gx11,hF⟩:=bS hF;have w12:ans A 124 [V.int .i64 x9]=some (V.isl (x11.map Enc.enc)):=s124 x9 gx11;cases hF;simp only[simprocAttr,R0,b100,h_0,eq_false c1,w7,eq_true c8,w10,w12];exact fin_ret (by simp only[simprocAttr,R0,fn_out,p100,Rs.ev,take_len_self,h_0,eq_false c1,w7,eq_true c8,w10,w12])
  ·rw[if_neg c8]at hF
   obtain⟨x13,gx13,hF⟩:=bS hF;have wx13:=chk_w gx13;obtain⟨x14,gx14,hF⟩:=bS hF;obtain⟨w15a,w15b⟩:=getI_w gx14;obtain⟨x16,gx16,hF⟩:=bS hF;have w17:ans A 125 [V.int .i64 a0.Prime,V.isl (x14.map Enc.enc)]=some (V.isl (x16.map Enc.enc)):=s125 a0.Prime x14 gx16;cases hF;simp only[simprocAttr,R0,b100,h_0,eq_false c1,w7,eq_false c8,wx13,w15a,w15b,w17];exact fin_ret (by simp only[simprocAttr,R0,fn_out,p100,Rs.ev,take_len_self,h_0,eq_false c1,w7,eq_false c8,wx13,w15a,w15b,w17])
def F123(a0:Int):Option Bool:=
 some (!(decide (a0=0)))
theorem s123(a0:Int){r:Bool}(hF:F123 a0=some r):ans A 123 [V.int .i64 a0]=some (Enc.enc r):=by
 refine ans_of (f:=p123) rfl rfl rfl fun e hl he=>?_;have h0_0:e.at 0=V.int .i64 a0:=he 0 _ rfl;have hl_0:e.length=5:=hl;clear he hl;show W A b123 e ⟨[],0⟩ _;unfold F123 at hF;cases hF;simp only[simprocAttr,R0,b123,hl_0,h0_0];exact fin_ret (by simp only[simprocAttr,R0,fn_out,p123,Rs.ev,take_len_self,hl_0,h0_0])
def F101_1_B(a0:List (List Int))(v9_1:Int)(o0_1:(List Int)):Option (((List Int))⊕((List Int))):=
 (getI a0 v9_1).bind fun x5=>
(F115 x5 (fun x=> F123 x)).bind fun x7=>
(app 8 o0_1 [x7]).bind fun l10=>
some (.inl l10)
def F101_1_D(a0:List (List Int))(v9_1:Int)(o0_1:(List Int)):Option ((List Int)):=
 some o0_1
def F101(a0:List (List Int)):Option (List Int):=
 (forR 0 (a0.length:Int) (F101_1_B a0) (F101_1_D a0) ([]:(List Int))).bind fun zo0_1=>
 some zo0_1
def I101_1(a0:List (List Int))(v9_1:Int)(o0_1:(List Int))(e:Env)(h:Heap):Prop:=
 ∃u2 k3:Nat,h=⟨[(u2,some (o0_1.map Enc.enc))],k3⟩∧e.length=20∧e.at 3=V.sl 0 u2 0 o0_1.length 1∧e.at 7=V.isl (a0.map Enc.enc)∧e.at 8=V.int .i64 (a0.length:Int)∧e.at 9=V.int .i64 v9_1
def P101_1(a0:List (List Int))(zo0_1:(List Int))(x:Ex)(e:Env)(h:Heap):Prop:=
 x= .normal∧∃u2 k3:Nat,h=⟨[(u2,some (zo0_1.map Enc.enc))],k3⟩∧e.length=20∧e.at 3=V.sl 0 u2 0 zo0_1.length 1
theorem l101_1(a0:List (List Int)){lo:Int}{s:(List Int)}{t:(List Int)}(hF:forR lo (a0.length:Int) (F101_1_B a0) (F101_1_D a0) s=some t){e:Env}{h:Heap}(hI:I101_1 a0 lo s e h):W A c101_1 e h (P101_1 a0 t):=by
 show W A (.block 0 (.loop false b101_1)) e h _;rw[W_block];refine W_forR hF 1 (by obtain⟨_,_,rfl,_⟩:=hI; rfl) (I101_1 a0) hI ?_ ?_
 ·rintro v9_1 o0_1 e h ⟨u2,k3,rfl,h_1⟩ hlt hw o ho
  unfold F101_1_B at ho;obtain⟨x5,gx5,ho⟩:=bS ho;obtain⟨w6a,w6b⟩:=getI_w gx5;obtain⟨x7,gx7,ho⟩:=bS ho;have w8:ans A 115 [V.isl (x5.map Enc.enc),V.fn 123 [] []]=some (V.int .i64 x7):=s115 x5 (fun x=> F123 x) (Clo1.of (by intro h f; simp only[RZ,mapO]) (by intro h f; simp only[RZ,mapO]) (by intro f; simp only[RZ,RB]) (by intro f; simp only[RZ,RB]) (fun x _ hr=> s123 x hr)) gx7;obtain⟨l10,gl10,ho⟩:=bS ho;have w9:=fun a b c d e=> appendV_w (α:=Int) (n:=o0_1.length) (m:=1) (ds:=[V.int .i64 x7]) gl10 (by first|rfl|simp) (by first|rfl|simp) rfl a b c d e;have w9l:=app_len gl10;cases ho;simp only[simprocAttr,R0,b101_1,h_1,eq_true hlt,hw,w6a,w6b,w8,w9];refine And.intro rfl (Exists.intro _ (Exists.intro _ (And.intro rfl ?_)));simp only[simprocAttr,R0,h_1,eq_true hlt,hw,w6a,w6b,w8,w9]
 ·rintro v9_1 o0_1 e h ⟨u2,k3,rfl,h_1⟩ hge t1 ho
  unfold F101_1_D at ho;cases ho;simp only[simprocAttr,R0,b101_1,h_1,eq_false hge];intro ht; subst ht;refine And.intro rfl (Exists.intro _ (Exists.intro _ (And.intro rfl ?_)));simp only[simprocAttr,R0,h_1,eq_false hge]
theorem s101(a0:List (List Int)){r:List Int}(hF:F101 a0=some r):ans A 101 [V.isl (a0.map Enc.enc)]=some (Enc.enc r):=by
 refine ans_of (f:=p101) rfl rfl rfl fun e hl he=>?_;have h0_0:e.at 0=V.isl (a0.map Enc.enc):=he 0 _ rfl;have hl_0:e.length=20:=hl;clear he hl;show W A b101 e ⟨[],0⟩ _;unfold F101 at hF;obtain⟨zo0_1,gt11,hF⟩:=bS hF;simp only[simprocAttr, -Int.reduceNatCast',R0,b101,hl_0,h0_0];refine W.mono (l101_1 a0 gt11 (Exists.intro _ (Exists.intro _ (And.intro rfl ?_)))) ?_
 ·simp only[simprocAttr, -Int.reduceNatCast',R0,hl_0,h0_0]
 rintro _ e _ ⟨rfl,u2,k3,rfl,hl_4,h3_4⟩;have hE:=Option.some.inj hF; subst hE;simp only[simprocAttr, -Int.reduceNatCast',R0,hl_4,h3_4];exact fin_ret (by simp only[simprocAttr, -Int.reduceNatCast',R0,fn_out,p101,Rs.ev,take_len_self,hl_4,h3_4,frzs (α:=Int) zo0_1,takes (α:=Int) zo0_1])
def F126_1_B(a0:List Int)(a1:Int)(v8_1:Int)(s:Unit):Option ((Unit)⊕((Unit)⊕Int)):=
 (getI a0 v8_1).bind fun x4=>
if a1=x4 then
 some (.inr (.inr v8_1))
else
 some (.inl ())
def F126_1_D(a0:List Int)(a1:Int)(v8_1:Int)(s:Unit):Option ((Unit)⊕Int):=
 some (.inl ())
def F126(a0:List Int)(a1:Int):Option Int:=
 (forR 0 (a0.length:Int) (F126_1_B a0 a1) (F126_1_D a0 a1) ()).bind fun t7=> match t7 with
  | .inl _=>
   some (-1)
  | .inr r8=> some r8
def I126_1(a0:List Int)(a1:Int)(v8_1:Int)(s:Unit)(e:Env)(h:Heap):Prop:=
 ∃k2:Nat,h=⟨[],k2⟩∧e.length=19∧e.at 0=V.isl (a0.map Enc.enc)∧e.at 1=V.int .i64 a1∧e.at 7=V.int .i64 (a0.length:Int)∧e.at 8=V.int .i64 v8_1
def P126_1(a0:List Int)(a1:Int)(t:(Unit)⊕Int)(x:Ex)(e:Env)(h:Heap):Prop:=
 match t with
 | .inl _=> x= .normal∧∃k2:Nat,h=⟨[],k2⟩∧e.length=19
 | .inr r=> x= .ret∧Fin p126 (Enc.enc r) .ret e h
theorem l126_1(a0:List Int)(a1:Int){lo:Int}{s:Unit}{t:(Unit)⊕Int}(hF:forR lo (a0.length:Int) (F126_1_B a0 a1) (F126_1_D a0 a1) s=some t){e:Env}{h:Heap}(hI:I126_1 a0 a1 lo s e h):W A c126_1 e h (P126_1 a0 a1 t):=by
 show W A (.block 0 (.loop false b126_1)) e h _;rw[W_block];refine W_forR hF 0 (by obtain⟨_,rfl,_⟩:=hI; rfl) (I126_1 a0 a1) hI ?_ ?_
 ·rintro v8_1 _ e h ⟨k2,rfl,h_1⟩ hlt hw o ho
  unfold F126_1_B at ho;obtain⟨x4,gx4,ho⟩:=bS ho;obtain⟨w5a,w5b⟩:=getI_w gx4;by_cases c6:a1=x4
  ·rw[if_pos c6]at ho
   cases ho;simp only[simprocAttr,R0,b126_1,h_1,eq_true hlt,hw,w5a,w5b,eq_true c6];intro ht; subst ht;simp only[simprocAttr,RR,RB];exact And.intro rfl (fin_ret (by simp only[simprocAttr,R0,fn_out,p126,Rs.ev,take_len_self,h_1,eq_true hlt,hw,w5a,w5b,eq_true c6]))
  ·rw[if_neg c6]at ho
   cases ho;simp only[simprocAttr,R0,b126_1,h_1,eq_true hlt,hw,w5a,w5b,eq_false c6];refine And.intro rfl (Exists.intro _ (And.intro rfl ?_));simp only[simprocAttr,R0,h_1,eq_true hlt,hw,w5a,w5b,eq_false c6]
 ·rintro v8_1 _ e h ⟨k2,rfl,h_1⟩ hge t1 ho
  unfold F126_1_D at ho;cases ho;simp only[simprocAttr,R0,b126_1,h_1,eq_false hge];intro ht; subst ht;refine And.intro rfl (Exists.intro _ (And.intro rfl ?_));simp only[simprocAttr,R0,h_1,eq_false hge]
theorem s126(a0:List Int)(a1:Int){r:Int}(hF:F126 a0 a1=some r):ans A 126 [V.isl (a0.map Enc.enc),V.int .i64 a1]=some (Enc.enc r):=by
 refine ans_of (f:=p126) rfl rfl rfl fun e hl he=>?_;have h0_0:e.at 0=V.isl (a0.map Enc.enc):=he 0 _ rfl;have h1_0:e.at 1=V.int .i64 a1:=he 1 _ rfl;have hl_0:e.length=19:=hl;clear he hl;have h_0:=And.intro hl_0 (And.intro h0_0 h1_0);show W A b126 e ⟨[],0⟩ _;unfold F126 at hF;obtain⟨t7,gt7,hF⟩:=bS hF;rcases t7 with _|r8
 ·dsimp only at hF
  simp only[simprocAttr,R0,b126,h_0];refine W.mono (l126_1 a0 a1 gt7 (Exists.intro _ (And.intro rfl ?_))) ?_
  ·simp only[simprocAttr,R0,h_0]
  rintro _ e _ ⟨rfl,k2,rfl,hl_3⟩;cases hF;simp only[simprocAttr,R0,hl_3];exact fin_ret (by simp only[simprocAttr,R0,fn_out,p126,Rs.ev,take_len_self,hl_3])
 ·dsimp only at hF
  cases hF;simp only[simprocAttr,R0,b126,h_0];refine W.mono (l126_1 a0 a1 gt7 (Exists.intro _ (And.intro rfl ?_))) ?_
  ·simp only[simprocAttr,R0,h_0]
  rintro _ e h ⟨rfl,hq⟩;simp only[simprocAttr,RR,RB];exact hq
def F103(a0:List Int)(a1:Int):Option Bool:=
 (F126 a0 a1).bind fun x1=>
 some (decide (0≤x1))
theorem s103(a0:List Int)(a1:Int){r:Bool}(hF:F103 a0 a1=some r):ans A 103 [V.isl (a0.map Enc.enc),V.int .i64 a1]=some (Enc.enc r):=by
 refine ans_of (f:=p103) rfl rfl rfl fun e hl he=>?_;have h0_0:e.at 0=V.isl (a0.map Enc.enc):=he 0 _ rfl;have h1_0:e.at 1=V.int .i64 a1:=he 1 _ rfl;have hl_0:e.length=9:=hl;clear he hl;show W A b103 e ⟨[],0⟩ _;unfold F103 at hF;obtain⟨x1,gx1,hF⟩:=bS hF;have w2:ans A 126 [V.isl (a0.map Enc.enc),V.int .i64 a1]=some (V.int .i64 x1):=s126 a0 a1 gx1;cases hF;simp only[simprocAttr,R0,b103,hl_0,h0_0,h1_0,w2];exact fin_ret (by simp only[simprocAttr,R0,fn_out,p103,Rs.ev,take_len_self,hl_0,h0_0,h1_0,w2])
def F63_1_B(x3:List Int)(x5:Int)(v16_1:Int)(o1_1:(List Int)):Option (((List Int))⊕((List Int))):=
 (F103 x3 v16_1).bind fun x11=>
if x11=true then
 some (.inl o1_1)
else
 (app 8 o1_1 [v16_1]).bind fun l14=>
 some (.inl l14)
def F63_1_D(x3:List Int)(x5:Int)(v16_1:Int)(o1_1:(List Int)):Option ((List Int)):=
 some o1_1
def F63(a0:GComplex)(a1:Int):Option (List Int):=
 (F100 a0 a1).bind fun x1=>
 (F101 x1).bind fun x3=>
 (F102 a0 a1).bind fun x5=>
 (forR 0 x5 (F63_1_B x3 x5) (F63_1_D x3 x5) ([]:(List Int))).bind fun zo1_1=>
 some zo1_1
def I63_1(x3:List Int)(x5:Int)(v16_1:Int)(o1_1:(List Int))(e:Env)(h:Heap):Prop:=
 ∃u8 k9:Nat,h=⟨[(0,none),(u8,some (o1_1.map Enc.enc))],k9⟩∧e.length=29∧e.at 5=V.sl 1 u8 0 o1_1.length 1∧e.at 6=V.isl (x3.map Enc.enc)∧e.at 15=V.int .i64 x5∧e.at 16=V.int .i64 v16_1
def P63_1(x3:List Int)(x5:Int)(zo1_1:(List Int))(x:Ex)(e:Env)(h:Heap):Prop:=
 x= .normal∧∃u8 k9:Nat,h=⟨[(0,none),(u8,some (zo1_1.map Enc.enc))],k9⟩∧e.length=29∧e.at 5=V.sl 1 u8 0 zo1_1.length 1
theorem l63_1(x3:List Int)(x5:Int){lo:Int}{s:(List Int)}{t:(List Int)}(hF:forR lo x5 (F63_1_B x3 x5) (F63_1_D x3 x5) s=some t){e:Env}{h:Heap}(hI:I63_1 x3 x5 lo s e h):W A c63_1 e h (P63_1 x3 x5 t):=by
 show W A (.block 0 (.loop false b63_1)) e h _;rw[W_block];refine W_forR hF 2 (by obtain⟨_,_,rfl,_⟩:=hI; rfl) (I63_1 x3 x5) hI ?_ ?_
 ·rintro v16_1 o1_1 e h ⟨u8,k9,rfl,h_7⟩ hlt hw o ho
  unfold F63_1_B at ho;obtain⟨x11,gx11,ho⟩:=bS ho;have w12:ans A 103 [V.isl (x3.map Enc.enc),V.int .i64 v16_1]=some (V.bool x11):=s103 x3 v16_1 gx11;cases x11 with
  |true=>
   rw[if_pos rfl]at ho;cases ho;simp only[simprocAttr,R0,b63_1,h_7,eq_true hlt,hw,w12];refine And.intro rfl (Exists.intro _ (Exists.intro _ (And.intro rfl ?_)));simp only[simprocAttr,R0,h_7,eq_true hlt,hw,w12]
  |false=>
   rw[if_neg Bool.false_ne_true]at ho;obtain⟨l14,gl14,ho⟩:=bS ho;have w13:=fun a b c d e=> appendV_w (α:=Int) (n:=o1_1.length) (m:=1) (ds:=[V.int .i64 v16_1]) gl14 (by first|rfl|simp) (by first|rfl|simp) rfl a b c d e;have w13l:=app_len gl14;cases ho;simp only[simprocAttr,R0,b63_1,h_7,eq_true hlt,hw,w12,w13];refine And.intro rfl (Exists.intro _ (Exists.intro _ (And.intro rfl ?_)));simp only[simprocAttr,R0,h_7,eq_true hlt,hw,w12,w13]
 ·rintro v16_1 o1_1 e h ⟨u8,k9,rfl,h_7⟩ hge t1 ho
  unfold F63_1_D at ho;cases ho;simp only[simprocAttr,R0,b63_1,h_7,eq_false hge];intro ht; subst ht;refine And.intro rfl (Exists.intro _ (Exists.intro _ (And.intro rfl ?_)));simp only[simprocAttr,R0,h_7,eq_false hge]
theorem s63(a0:GComplex)(a1:Int){r:List Int}(hF:F63 a0 a1=some r):ans A 63 [(eC a0),V.int .i64 a1]=some (Enc.enc r):=by
 refine ans_of (f:=p63) rfl rfl rfl fun e hl he=>?_;have h0_0:e.at 0=(eC a0):=he 0 _ rfl;have h1_0:e.at 1=V.int .i64 a1:=he 1 _ rfl;have hl_0:e.length=29:=hl;clear he hl;show W A b63 e ⟨[],0⟩ _;unfold F63 at hF;obtain⟨x1,gx1,hF⟩:=bS hF;have w2:ans A 100 [(eC a0),V.int .i64 a1]=some (V.isl (x1.map Enc.enc)):=s100 a0 a1 gx1;obtain⟨x3,gx3,hF⟩:=bS hF;have w4:ans A 101 [V.isl (x1.map Enc.enc)]=some (V.isl (x3.map Enc.enc)):=s101 x1 gx3;obtain⟨x5,gx5,hF⟩:=bS hF;have w6:ans A 102 [(eC a0),V.int .i64 a1]=some (V.int .i64 x5):=s102 a0 a1 gx5;obtain⟨zo1_1,gt15,hF⟩:=bS hF;simp only[simprocAttr, -Int.reduceNatCast',R0,b63,hl_0,h0_0,h1_0,w2,w4,w6];refine W.mono (l63_1 x3 x5 gt15 (Exists.intro _ (Exists.intro _ (And.intro rfl ?_)))) ?_
 ·simp only[simprocAttr, -Int.reduceNatCast',R0,hl_0,h0_0,h1_0,w2,w4,w6]
 rintro _ e _ ⟨rfl,u8,k9,rfl,hl_10,h5_10⟩;have hE:=Option.some.inj hF; subst hE;simp only[simprocAttr, -Int.reduceNatCast',R0,hl_10,h5_10];exact fin_ret (by simp only[simprocAttr, -Int.reduceNatCast',R0,fn_out,p63,Rs.ev,take_len_self,hl_10,h5_10,frzs (α:=Int) zo1_1,takes (α:=Int) zo1_1])
def F205_1_B(p:Int)(rows:List (List Int))(ls:List Int)(i:Int)(out:List Int):Option (List Int⊕List Int):=(getI ls i).bind fun a=>(getI rows i).bind fun r=>(getI out a).bind fun x=>(F139 out r p x).bind fun o=> some (.inl o)
def F205_1_D(i:Int)(out:List Int):Option (List Int):=some out
def F205(p:Int)(v:List Int)(rows:List (List Int)):Option (List Int):=(F96 v).bind fun d=>(F101 rows).bind fun ls=> forR 0 (ls.length:Int) (F205_1_B p rows ls) F205_1_D d
theorem d205(p:Int)(v:List Int)(rows:List (List Int)){r:List Int}(hF:F205 p v rows=some r):∃w h',res A 205 [V.int .i64 p,V.isl (v.map Enc.enc),V.isl (rows.map Enc.enc)] Heap.empty=some (w,h')∧∃K,Deep.rep h' w r K:=by
 refine res_dp (f:=p205) rfl rfl rfl fun e hl he=>?_;have h0_0:e.at 0=V.int .i64 p:=he 0 _ rfl;have h1_0:e.at 1=V.isl (v.map Enc.enc):=he 1 _ rfl;have h2_0:e.at 2=V.isl (rows.map Enc.enc):=he 2 _ rfl;have hl_0:e.length=33:=hl;clear he hl;show W A b205 e ⟨[],0⟩ _;unfold F205 at hF;obtain⟨d,gd,hF⟩:=bS hF;have wd:=t96 v gd;obtain⟨ls,gls,hF⟩:=bS hF;have wls:ans A 101 [V.isl (rows.map Enc.enc)]=some (V.isl (ls.map Enc.enc)):=s101 rows gls;simp only[simprocAttr,R1,b205,hl_0,h0_0,h1_0,h2_0,wd,wls,callM_tans,thaw_one];show W A (.block 0 (.loop true b205_1)) _ _ _;rw[W_block];refine W_forR hF _ rfl (fun i q e h=>∃k u,h.ents[k]? =some (u,some (q.map Enc.enc))∧e.length=33∧e.at 0=V.int .i64 p∧e.at 2=V.isl (rows.map Enc.enc)∧e.at 7=V.sl k u 0 q.length 1∧e.at 13=V.isl (ls.map Enc.enc)∧e.at 14=V.int .i64 (ls.length:Int)∧e.at 15=V.int .i64 i) ?_ ?_ ?_
 ·refine⟨0,0,rfl,?_⟩
  simp only[simprocAttr,R1,hl_0,h0_0,h1_0,h2_0]
 ·clear hl_0 h0_0 h1_0 h2_0
  rintro i q e ⟨E,c⟩ ⟨k,u,g1,h_1⟩ hlt hw s' ho;unfold F205_1_B at ho;simp only at g1;obtain⟨a,ga,ho⟩:=bS ho;obtain⟨aa,ab⟩:=getI_w ga;obtain⟨x,gx,ho⟩:=bS ho;obtain⟨xa,xb⟩:=getI_w gx;obtain⟨y,gy,ho⟩:=bS ho;obtain⟨ya,yb⟩:=getI_w gy;have yc:=getI_lt gy;obtain⟨o,go,ho⟩:=bS ho;cases ho;obtain⟨w1,w2⟩:=i139 go E c g1;have oy:ofCells none (List.drop a.toNat (q.map Enc.enc))=some (V.int .i64 y):=ofCells_drop (by rw[List.getElem?_map,yb]; rfl);simp only[simprocAttr,R1,b205_1,h_1,eq_true hlt,hw,aa,ab,xa,xb,ya,eq_true yc,g1,oy,callM_plain_eq,w1];refine And.intro rfl ⟨k,u,set_app_key (List.getElem?_eq_some_iff.1 g1).1,?_⟩;simp only[simprocAttr,R1,h_1,hw,w2]
 ·clear hl_0 h0_0 h1_0 h2_0
  rintro i q e ⟨E,c⟩ ⟨k,u,g1,h_1⟩ hge t1 ho;unfold F205_1_D at ho;cases ho;simp only at g1;simp only[simprocAttr,R1,b205_1,h_1,eq_false hge];intro ht; subst ht;refine And.intro (fun _=> trivial) ⟨_,?_,fun x=> x=k,int_row (l:=q) g1 fun x=> Iff.rfl⟩;simp only[simprocAttr,R1,fn_out,p205,Rs.ev,h_1]
theorem s205(p:Int)(v:List Int)(rows:List (List Int)){r:List Int}(hF:F205 p v rows=some r):ans A 205 [V.int .i64 p,V.isl (v.map Enc.enc),V.isl (rows.map Enc.enc)]=some (Enc.enc r):=ans_of_deep (α:=List Int) (by decide) (d205 p v rows hF)
def F188_1_B(x1:List Int)(x3:List Int)(v20_1:Int)(o0_1:(List Int)):Option (((List Int))⊕((List Int))):=
 (getI x3 v20_1).bind fun x9=>
(getI x1 x9).bind fun x11=>
(app 8 o0_1 [x11]).bind fun l14=>
some (.inl l14)
def F188_1_D(x1:List Int)(x3:List Int)(v20_1:Int)(o0_1:(List Int)):Option ((List Int)):=
 some o0_1
def F188(a0:Int)(a1:List Int)(a2:List (List Int))(a3:List (List Int)):Option (List Int):=
 (F205 a0 a1 a3).bind fun x1=>
 (F101 a2).bind fun x3=>
 (forR 0 (x3.length:Int) (F188_1_B x1 x3) (F188_1_D x1 x3) ([]:(List Int))).bind fun zo0_1=>
 some zo0_1
def I188_1(x1:List Int)(x3:List Int)(v20_1:Int)(o0_1:(List Int))(e:Env)(h:Heap):Prop:=
 ∃u6 k7:Nat,h=⟨[(u6,some (o0_1.map Enc.enc))],k7⟩∧e.length=33∧e.at 1=V.isl (x1.map Enc.enc)∧e.at 9=V.sl 0 u6 0 o0_1.length 1∧e.at 18=V.isl (x3.map Enc.enc)∧e.at 19=V.int .i64 (x3.length:Int)∧e.at 20=V.int .i64 v20_1
def P188_1(x1:List Int)(x3:List Int)(zo0_1:(List Int))(x:Ex)(e:Env)(h:Heap):Prop:=
 x= .normal∧∃u6 k7:Nat,h=⟨[(u6,some (zo0_1.map Enc.enc))],k7⟩∧e.length=33∧e.at 9=V.sl 0 u6 0 zo0_1.length 1
theorem l188_1(x1:List Int)(x3:List Int){lo:Int}{s:(List Int)}{t:(List Int)}(hF:forR lo (x3.length:Int) (F188_1_B x1 x3) (F188_1_D x1 x3) s=some t){e:Env}{h:Heap}(hI:I188_1 x1 x3 lo s e h):W A c188_1 e h (P188_1 x1 x3 t):=by
 show W A (.block 0 (.loop false b188_1)) e h _;rw[W_block];refine W_forR hF 1 (by obtain⟨_,_,rfl,_⟩:=hI; rfl) (I188_1 x1 x3) hI ?_ ?_
 ·rintro v20_1 o0_1 e h ⟨u6,k7,rfl,h_5⟩ hlt hw o ho
  unfold F188_1_B at ho;obtain⟨x9,gx9,ho⟩:=bS ho;obtain⟨w10a,w10b⟩:=getI_w gx9;obtain⟨x11,gx11,ho⟩:=bS ho;obtain⟨w12a,w12b⟩:=getI_w gx11;obtain⟨l14,gl14,ho⟩:=bS ho;have w13:=fun a b c d e=> appendV_w (α:=Int) (n:=o0_1.length) (m:=1) (ds:=[V.int .i64 x11]) gl14 (by first|rfl|simp) (by first|rfl|simp) rfl a b c d e;have w13l:=app_len gl14;cases ho;simp only[simprocAttr,R0,b188_1,h_5,eq_true hlt,hw,w10a,w10b,w12a,w12b,w13];refine And.intro rfl (Exists.intro _ (Exists.intro _ (And.intro rfl ?_)));simp only[simprocAttr,R0,h_5,eq_true hlt,hw,w10a,w10b,w12a,w12b,w13]
 ·rintro v20_1 o0_1 e h ⟨u6,k7,rfl,h_5⟩ hge t1 ho
  unfold F188_1_D at ho;cases ho;simp only[simprocAttr,R0,b188_1,h_5,eq_false hge];intro ht; subst ht;refine And.intro rfl (Exists.intro _ (Exists.intro _ (And.intro rfl ?_)));simp only[simprocAttr,R0,h_5,eq_false hge]
theorem s188(a0:Int)(a1:List Int)(a2:List (List Int))(a3:List (List Int)){r:List Int}(hF:F188 a0 a1 a2 a3=some r):ans A 188 [V.int .i64 a0,V.isl (a1.map Enc.enc),V.isl (a2.map Enc.enc),V.isl (a3.map Enc.enc)]=some (Enc.enc r):=by
 refine ans_of (f:=p188) rfl rfl rfl fun e hl he=>?_;have h0_0:e.at 0=V.int .i64 a0:=he 0 _ rfl;have h1_0:e.at 1=V.isl (a1.map Enc.enc):=he 1 _ rfl;have h2_0:e.at 2=V.isl (a2.map Enc.enc):=he 2 _ rfl;have h3_0:e.at 3=V.isl (a3.map Enc.enc):=he 3 _ rfl;have hl_0:e.length=33:=hl;clear he hl;show W A b188 e ⟨[],0⟩ _;unfold F188 at hF;obtain⟨x1,gx1,hF⟩:=bS hF;have w2:ans A 205 [V.int .i64 a0,V.isl (a1.map Enc.enc),V.isl (a3.map Enc.enc)]=some (V.isl (x1.map Enc.enc)):=s205 a0 a1 a3 gx1;obtain⟨x3,gx3,hF⟩:=bS hF;have w4:ans A 101 [V.isl (a2.map Enc.enc)]=some (V.isl (x3.map Enc.enc)):=s101 a2 gx3;obtain⟨zo0_1,gt15,hF⟩:=bS hF;simp only[simprocAttr, -Int.reduceNatCast',R0,b188,hl_0,h0_0,h1_0,h2_0,h3_0,w2,w4];refine W.mono (l188_1 x1 x3 gt15 (Exists.intro _ (Exists.intro _ (And.intro rfl ?_)))) ?_
 ·simp only[simprocAttr, -Int.reduceNatCast',R0,hl_0,h0_0,h1_0,h2_0,h3_0,w2,w4]
 rintro _ e _ ⟨rfl,u6,k7,rfl,hl_8,h9_8⟩;have hE:=Option.some.inj hF; subst hE;simp only[simprocAttr, -Int.reduceNatCast',R0,hl_8,h9_8];exact fin_ret (by simp only[simprocAttr, -Int.reduceNatCast',R0,fn_out,p188,Rs.ev,take_len_self,hl_8,h9_8,frzs (α:=Int) zo0_1,takes (α:=Int) zo0_1])
theorem t188(a0:Int)(a1:List Int)(a2:List (List Int))(a3:List (List Int)){r:List Int}(hF:F188 a0 a1 a2 a3=some r):tans A 188 [1] [V.int .i64 a0,V.isl (a1.map Enc.enc),V.isl (a2.map Enc.enc),V.isl (a3.map Enc.enc)]=some (Enc.enc r):=by
 refine tans_of (f:=p188) rfl rfl rfl fun e hl he=>?_;have h0_0:e.at 0=V.int .i64 a0:=he 0 _ rfl;have h1_0:e.at 1=V.isl (a1.map Enc.enc):=he 1 _ rfl;have h2_0:e.at 2=V.isl (a2.map Enc.enc):=he 2 _ rfl;have h3_0:e.at 3=V.isl (a3.map Enc.enc):=he 3 _ rfl;have hl_0:e.length=33:=hl;clear he hl;show W A b188 e ⟨[],0⟩ _;unfold F188 at hF;obtain⟨x1,gx1,hF⟩:=bS hF;have w2:ans A 205 [V.int .i64 a0,V.isl (a1.map Enc.enc),V.isl (a3.map Enc.enc)]=some (V.isl (x1.map Enc.enc)):=s205 a0 a1 a3 gx1;obtain⟨x3,gx3,hF⟩:=bS hF;have w4:ans A 101 [V.isl (a2.map Enc.enc)]=some (V.isl (x3.map Enc.enc)):=s101 a2 gx3;obtain⟨zo0_1,gt15,hF⟩:=bS hF;simp only[simprocAttr, -Int.reduceNatCast',R0,b188,hl_0,h0_0,h1_0,h2_0,h3_0,w2,w4];refine W.mono (l188_1 x1 x3 gt15 (Exists.intro _ (Exists.intro _ (And.intro rfl ?_)))) ?_
 ·simp only[simprocAttr, -Int.reduceNatCast',R0,hl_0,h0_0,h1_0,h2_0,h3_0,w2,w4]
 rintro _ e _ ⟨rfl,u6,k7,rfl,hl_8,h9_8⟩;have hE:=Option.some.inj hF; subst hE;simp only[simprocAttr, -Int.reduceNatCast',R0,hl_8,h9_8];exact tfin_ret (by simp only[simprocAttr, -Int.reduceNatCast',R0,fn_out,p188,Rs.ev,take_len_self,hl_8,h9_8,frzs (α:=Int) zo0_1,takes (α:=Int) zo0_1])
def F186(a0:GComplex)(a1:Int):Option (List (List Int)):=
 if a1 < 0 then
  some ([]:List (List Int))
 else
  (F86 a0).bind fun x2=>
  if x2≤a1 then
   some ([]:List (List Int))
  else
   (getI a0.Maps a1).bind fun x5=>
   (F133 a0.Prime x5).bind fun x7=>
   some x7
theorem s186(a0:GComplex)(a1:Int){r:List (List Int)}(hF:F186 a0 a1=some r):ans A 186 [(eC a0),V.int .i64 a1]=some (Enc.enc r):=by
 refine ans_of (f:=p186) rfl rfl rfl fun e hl he=>?_;have h0_0:e.at 0=(eC a0):=he 0 _ rfl;have h1_0:e.at 1=V.int .i64 a1:=he 1 _ rfl;have hl_0:e.length=21:=hl;clear he hl;have h_0:=And.intro hl_0 (And.intro h0_0 h1_0);show W A b186 e ⟨[],0⟩ _;unfold F186 at hF;by_cases c1:a1 < 0
 ·rw[if_pos c1]at hF
  cases hF;simp only[simprocAttr,R0,b186,h_0,eq_true c1];exact fin_ret (by simp only[simprocAttr,R0,fn_out,p186,Rs.ev,take_len_self,h_0,eq_true c1])
 ·rw[if_neg c1]at hF
  obtain⟨x2,gx2,hF⟩:=bS hF;have w3:ans A 86 [(eC a0)]=some (V.int .i64 x2):=s86 a0 gx2;by_cases c4:x2≤a1
  ·rw[if_pos c4]at hF
   cases hF;simp only[simprocAttr,R0,b186,h_0,eq_false c1,w3,eq_true c4];exact fin_ret (by simp only[simprocAttr,R0,fn_out,p186,Rs.ev,take_len_self,h_0,eq_false c1,w3,eq_true c4])
  ·rw[if_neg c4]at hF
   obtain⟨x5,gx5,hF⟩:=bS hF;obtain⟨w6a,w6b⟩:=getI_w gx5;obtain⟨x7,gx7,hF⟩:=bS hF;have w8:ans A 133 [V.int .i64 a0.Prime,V.isl (x5.map Enc.enc)]=some (V.isl (x7.map Enc.enc)):=s133 a0.Prime x5 gx7;cases hF;simp only[simprocAttr,R0,b186,h_0,eq_false c1,w3,eq_false c4,w6a,w6b,w8];exact fin_ret (by simp only[simprocAttr,R0,fn_out,p186,Rs.ev,take_len_self,h_0,eq_false c1,w3,eq_false c4,w6a,w6b,w8])
def F204_1_B(a0:Int)(a1:List (List Int))(a2:List (List Int))(v13_1:Int)(o0_1:(List (List Int))):Option (((List (List Int)))⊕((List (List Int)))):=
 (getI a1 v13_1).bind fun x5=>
(F205 a0 x5 a2).bind fun x7=>
(app 24 o0_1 [x7]).bind fun l10=>
some (.inl l10)
def F204_1_D(a0:Int)(a1:List (List Int))(a2:List (List Int))(v13_1:Int)(o0_1:(List (List Int))):Option ((List (List Int))):=
 some o0_1
def F204(a0:Int)(a1:List (List Int))(a2:List (List Int)):Option (List (List Int)):=
 (forR 0 (a1.length:Int) (F204_1_B a0 a1 a2) (F204_1_D a0 a1 a2) ([]:(List (List Int)))).bind fun zo0_1=>
 (F133 a0 zo0_1).bind fun x12=>
 some x12
theorem d204(a0:Int)(a1:List (List Int))(a2:List (List Int)){r:List (List Int)}(hF:F204 a0 a1 a2=some r):∃v h',res A 204 [V.int .i64 a0,V.isl (a1.map Enc.enc),V.isl (a2.map Enc.enc)] Heap.empty=some (v,h')∧∃K,Deep.rep h' v r K:=by
 refine res_dp (f:=p204) rfl rfl rfl fun e hl he=>?_;have h0_0:e.at 0=V.int .i64 a0:=he 0 _ rfl;have h1_0:e.at 1=V.isl (a1.map Enc.enc):=he 1 _ rfl;have h2_0:e.at 2=V.isl (a2.map Enc.enc):=he 2 _ rfl;have hl_0:e.length=28:=hl;clear he hl;show W A b204 e ⟨[],0⟩ _;unfold F204 at hF;obtain⟨l,gl,hF⟩:=bS hF;obtain⟨x12,gx12,hF⟩:=bS hF;have hE:=Option.some.inj hF; subst hE;have w13:tans A 133 [1,1] [V.int .i64 a0,V.isl (l.map Enc.enc)]=some (V.isl (x12.map Enc.enc)):=x133 a0 l gx12;simp only[simprocAttr, -Int.reduceNatCast',R0,b204,hl_0,h0_0,h1_0,h2_0];show W A (.block 0 (.loop false b204_1)) _ _ _;rw[W_block];refine W_forR gl 1 rfl (fun i s e h=>∃u k:Nat,h=⟨[(u,some (s.map Enc.enc))],k⟩∧e.length=28∧e.at 0=V.int .i64 a0∧e.at 2=V.isl (a2.map Enc.enc)∧e.at 7=V.sl 0 u 0 s.length 1∧e.at 11=V.isl (a1.map Enc.enc)∧e.at 12=V.int .i64 (a1.length:Int)∧e.at 13=V.int .i64 i) ?_ ?_ ?_
 ·refine⟨_,_,rfl,?_⟩
  simp only[simprocAttr, -Int.reduceNatCast',R0,hl_0,h0_0,h1_0,h2_0]
 ·clear hl_0 h0_0 h1_0 h2_0
  rintro i s e h ⟨u,k,rfl,hl_1,h0_1,h2_1,h7_1,h11_1,h12_1,h13_1⟩ hlt hw o ho;unfold F204_1_B at ho;obtain⟨x5,gx5,ho⟩:=bS ho;obtain⟨w6a,w6b⟩:=getI_w gx5;obtain⟨x7,gx7,ho⟩:=bS ho;have w8:ans A 205 [V.int .i64 a0,V.isl (x5.map Enc.enc),V.isl (a2.map Enc.enc)]=some (V.isl (x7.map Enc.enc)):=s205 a0 x5 a2 gx7;obtain⟨l10,gl10,ho⟩:=bS ho;have w9:=fun ents key uid clk he=> appendV_w (α:=List Int) (n:=s.length) (m:=1) (ds:=[V.isl (x7.map Enc.enc)]) gl10 (by first|rfl|simp only[List.length_nil]) (by first|rfl|simp only[List.length_nil]) rfl ents key uid clk he;have w9l:=app_len gl10;have hE:=Option.some.inj ho; subst hE;simp only[simprocAttr, -Int.reduceNatCast',R0,b204_1,hl_1,h0_1,h2_1,h7_1,h11_1,h12_1,h13_1,eq_true hlt,hw,w6a,w6b,w8,w9];refine And.intro rfl (Exists.intro _ (Exists.intro _ (And.intro rfl ?_)));simp only[simprocAttr, -Int.reduceNatCast',R0,hl_1,h0_1,h2_1,h7_1,h11_1,h12_1,h13_1,eq_true hlt,hw,w6a,w6b,w8,w9]
 ·clear hl_0 h0_0 h1_0 h2_0
  rintro i s e h ⟨u,k,rfl,hl_1,h0_1,h2_1,h7_1,h11_1,h12_1,h13_1⟩ hge t1 ho;unfold F204_1_D at ho;have hE:=Option.some.inj ho; subst hE;simp only[simprocAttr, -Int.reduceNatCast',R0,b204_1,hl_1,h0_1,h2_1,h7_1,h11_1,h12_1,h13_1,eq_false hge];intro ht; subst ht;obtain⟨v,⟨E1,c1⟩,K,t1,t2,t3,t4,t5⟩:=thawD (α:=List (List Int)) (by decide) x12 ⟨[(u,some (s.map Enc.enc))],k⟩;have t1':thaw 16 [1,1] (V.isl (x12.map Enc.enc)) ⟨[(u,some (s.map Enc.enc))],k⟩=some (v,⟨E1,c1⟩):=t1;have wbr:bare 16 [1,1] (V.isl (x12.map Enc.enc))=true:=Deep.br (α:=List (List Int)) x12 10 [];simp only[simprocAttr, -Int.reduceNatCast',R0,hl_1,h0_1,h2_1,h7_1,h11_1,h12_1,h13_1,wbr,frzs (α:=List Int) s,takes (α:=List Int) s,w13,callM_tans,t1'];refine And.intro (fun _=> trivial) ⟨v,?_,K,t2⟩;simp only[simprocAttr, -Int.reduceNatCast',R0,fn_out,p204,Rs.ev,hl_1]
theorem x204(a0:Int)(a1:List (List Int))(a2:List (List Int)){r:List (List Int)}(hF:F204 a0 a1 a2=some r):tans A 204 [1,1] [V.int .i64 a0,V.isl (a1.map Enc.enc),V.isl (a2.map Enc.enc)]=some (Enc.enc r):=tans_of_deep (α:=List (List Int)) (by decide) (d204 a0 a1 a2 hF)
def F189(a0:GComplex)(a1:Int):Option (List (List Int)):=
 (F100 a0 a1).bind fun x1=>
 (F186 a0 a1).bind fun x3=>
 (F204 a0.Prime x1 x3).bind fun x5=>
 some x5
theorem d189(x:GComplex)(n:Int){r:List (List Int)}(hF:F189 x n=some r):∃v h',res A 189 [(eC x),V.int .i64 n] Heap.empty=some (v,h')∧∃K,Deep.rep h' v r K:=by
 refine res_dp (f:=p189) rfl rfl rfl fun e hl he=>?_;have h0_0:e.at 0=(eC x):=he 0 _ rfl;have h1_0:e.at 1=V.int .i64 n:=he 1 _ rfl;have hl_0:e.length=14:=hl;clear he hl;show W A b189 e ⟨[],0⟩ _;unfold F189 at hF;obtain⟨x1,gx1,hF⟩:=bS hF;have w2:ans A 100 [(eC x),V.int .i64 n]=some (V.isl (x1.map Enc.enc)):=s100 x n gx1;obtain⟨x3,gx3,hF⟩:=bS hF;have w4:ans A 186 [(eC x),V.int .i64 n]=some (V.isl (x3.map Enc.enc)):=s186 x n gx3;obtain⟨x5,gx5,hF⟩:=bS hF;have w6:tans A 204 [1,1] [V.int .i64 x.Prime,V.isl (x1.map Enc.enc),V.isl (x3.map Enc.enc)]=some (V.isl (x5.map Enc.enc)):=x204 x.Prime x1 x3 gx5;have hE:=Option.some.inj hF; subst hE;obtain⟨v,⟨E1,c1⟩,K,t1,t2,t3,t4,t5⟩:=thawD (α:=List (List Int)) (by decide) x5 ⟨[(0,none)],1⟩;have t1':thaw 16 [1,1] (V.isl (x5.map Enc.enc)) ⟨[(0,none)],1⟩=some (v,⟨E1,c1⟩):=t1;simp only[simprocAttr, -Int.reduceNatCast',R0,b189,hl_0,h0_0,h1_0,w2,w4,w6,callM_tans,t1'];refine And.intro (fun _=> trivial) ⟨v,?_,K,t2⟩;simp only[simprocAttr, -Int.reduceNatCast',R0,fn_out,p189,Rs.ev,hl_0]
theorem x189(x:GComplex)(n:Int){r:List (List Int)}(hF:F189 x n=some r):tans A 189 [1,1] [(eC x),V.int .i64 n]=some (Enc.enc r):=tans_of_deep (α:=List (List Int)) (by decide) (d189 x n hF)
def F190_1_B(a0:Int)(a1:Int)(a2:List (List Int))(v18_1:Int)(o0_1:(List (List Int))):Option (((List (List Int)))⊕((List (List Int)))):=
 (getI a2 v18_1).bind fun x5=>
(F96 x5).bind fun x7=>
(F132 (a2.length:Int) v18_1).bind fun x11=>
(app 8 x7 x11).bind fun l14=>
(app 24 o0_1 [l14]).bind fun l16=>
some (.inl l16)
def F190_1_D(a0:Int)(a1:Int)(a2:List (List Int))(v18_1:Int)(o0_1:(List (List Int))):Option ((List (List Int))):=
 some o0_1
def F190_2_B(a1:Int)(x18:List (List Int))(v40_2:Int)(s:(List (List Int))×(List (List Int))):Option (((List (List Int))×(List (List Int)))⊕((List (List Int))×(List (List Int)))):=
 match s with
 |(o1_2,o2_2)=>
  (getI x18 v40_2).bind fun x25=>
  (slI x25 0 a1).bind fun l27=>
  (F92 l27).bind fun x29=>
  if x29=true then
   some (.inl (o1_2,o2_2))
  else
   (F96 l27).bind fun x31=>
   (app 24 o1_2 [x31]).bind fun l34=>
   (slI x25 a1 (x25.length:Int)).bind fun l35=>
   (F96 l35).bind fun x37=>
   (app 24 o2_2 [x37]).bind fun l40=>
   some (.inl (l34,l40))
def F190_2_D(a1:Int)(x18:List (List Int))(v40_2:Int)(s:(List (List Int))×(List (List Int))):Option ((List (List Int))×(List (List Int))):=
 match s with
 |(o1_2,o2_2)=>
  some (o1_2,o2_2)
def F190(a0:Int)(a1:Int)(a2:List (List Int)):Option (T2 (List (List Int)) (List (List Int))):=
 (forR 0 (a2.length:Int) (F190_1_B a0 a1 a2) (F190_1_D a0 a1 a2) ([]:(List (List Int)))).bind fun zo0_1=>
 (F133 a0 zo0_1).bind fun x18=>
 (forR 0 (x18.length:Int) (F190_2_B a1 x18) (F190_2_D a1 x18) ([],[])).bind fun t41=> match t41 with
  |(zo1_2,zo2_2)=>
   some ⟨zo1_2,zo2_2⟩
def I190_1(a0:Int)(a1:Int)(a2:List (List Int))(v18_1:Int)(o0_1:(List (List Int)))(e:Env)(h:Heap):Prop:=
 ∃u2 k3:Nat,h=⟨[(u2,some (o0_1.map Enc.enc))],k3⟩∧e.length=66∧e.at 0=V.int .i64 a0∧e.at 1=V.int .i64 a1∧e.at 2=V.isl (a2.map Enc.enc)∧e.at 8=V.sl 0 u2 0 o0_1.length 1∧e.at 16=V.isl (a2.map Enc.enc)∧e.at 17=V.int .i64 (a2.length:Int)∧e.at 18=V.int .i64 v18_1
def P190_1(a0:Int)(a1:Int)(a2:List (List Int))(zo0_1:(List (List Int)))(x:Ex)(e:Env)(h:Heap):Prop:=
 x= .normal∧∃u2 k3:Nat,h=⟨[(u2,some (zo0_1.map Enc.enc))],k3⟩∧e.length=66∧e.at 0=V.int .i64 a0∧e.at 1=V.int .i64 a1∧e.at 8=V.sl 0 u2 0 zo0_1.length 1
theorem l190_1(a0:Int)(a1:Int)(a2:List (List Int)){lo:Int}{s:(List (List Int))}{t:(List (List Int))}(hF:forR lo (a2.length:Int) (F190_1_B a0 a1 a2) (F190_1_D a0 a1 a2) s=some t){e:Env}{h:Heap}(hI:I190_1 a0 a1 a2 lo s e h):W A c190_1 e h (P190_1 a0 a1 a2 t):=by
 show W A (.block 0 (.loop false b190_1)) e h _;rw[W_block];refine W_forR hF 1 (by obtain⟨_,_,rfl,_⟩:=hI; rfl) (I190_1 a0 a1 a2) hI ?_ ?_
 ·rintro v18_1 o0_1 e h ⟨u2,k3,rfl,h_1⟩ hlt hw o ho
  unfold F190_1_B at ho;obtain⟨x5,gx5,ho⟩:=bS ho;obtain⟨w6a,w6b⟩:=getI_w gx5;obtain⟨x7,gx7,ho⟩:=bS ho;have w8:tans A 96 [1] [V.isl (x5.map Enc.enc)]=some (V.isl (x7.map Enc.enc)):=t96 x5 gx7;have w8t:=thaw_one (α:=Int) x7;have w10:ans A 89 [V.isl (a2.map Enc.enc)]=some (V.int .i64 (a2.length:Int)):=s89 a2 rfl;obtain⟨x11,gx11,ho⟩:=bS ho;have w12:ans A 132 [V.int .i64 (a2.length:Int),V.int .i64 v18_1]=some (V.isl (x11.map Enc.enc)):=s132 (a2.length:Int) v18_1 gx11;obtain⟨l14,gl14,ho⟩:=bS ho;have w13:=fun a b c d e=> appendV_w (α:=Int) (n:=x7.length) (m:=x11.length) (ds:=List.map Enc.enc x11) gl14 (by first|rfl|simp) (by first|rfl|simp) rfl a b c d e;have w13l:=app_len gl14;obtain⟨l16,gl16,ho⟩:=bS ho;have w15:=fun a b c d e=> appendV_w (α:=List Int) (n:=o0_1.length) (m:=1) (ds:=[V.isl (l14.map Enc.enc)]) gl16 (by first|rfl|simp) (by first|rfl|simp) rfl a b c d e;have w15l:=app_len gl16;cases ho;simp only[simprocAttr,R0,b190_1,h_1,eq_true hlt,hw,w6a,w6b,w8,w8t,w10,w12,w13,takes (α:=Int) l14,w15];refine And.intro rfl (Exists.intro _ (Exists.intro _ (And.intro rfl ?_)));simp only[simprocAttr,R0,h_1,eq_true hlt,hw,w6a,w6b,w8,w8t,w10,w12,w13,takes (α:=Int) l14,w15]
 ·rintro v18_1 o0_1 e h ⟨u2,k3,rfl,h_1⟩ hge t1 ho
  unfold F190_1_D at ho;cases ho;simp only[simprocAttr,R0,b190_1,h_1,eq_false hge];intro ht; subst ht;refine And.intro rfl (Exists.intro _ (Exists.intro _ (And.intro rfl ?_)));simp only[simprocAttr,R0,h_1,eq_false hge]
def I190_2(a1:Int)(x18:List (List Int))(v40_2:Int)(s:(List (List Int))×(List (List Int)))(e:Env)(h:Heap):Prop:=
 match s with
 |(o1_2,o2_2)=>
  ∃u21 u22 k23:Nat,h=⟨[(0,none),(u21,some (o1_2.map Enc.enc)),(u22,some (o2_2.map Enc.enc))],k23⟩∧e.length=66∧e.at 1=V.int .i64 a1∧e.at 11=V.sl 1 u21 0 o1_2.length 1∧e.at 12=V.sl 2 u22 0 o2_2.length 1∧e.at 38=V.isl (x18.map Enc.enc)∧e.at 39=V.int .i64 (x18.length:Int)∧e.at 40=V.int .i64 v40_2
def P190_2(a1:Int)(x18:List (List Int))(t:(List (List Int))×(List (List Int)))(x:Ex)(e:Env)(h:Heap):Prop:=
 match t with
 |(zo1_2,zo2_2)=>
  x= .normal∧∃u21 u22 k23:Nat,h=⟨[(0,none),(u21,some (zo1_2.map Enc.enc)),(u22,some (zo2_2.map Enc.enc))],k23⟩∧e.length=66∧e.at 11=V.sl 1 u21 0 zo1_2.length 1∧e.at 12=V.sl 2 u22 0 zo2_2.length 1
theorem l190_2(a1:Int)(x18:List (List Int)){lo:Int}{s:(List (List Int))×(List (List Int))}{t:(List (List Int))×(List (List Int))}(hF:forR lo (x18.length:Int) (F190_2_B a1 x18) (F190_2_D a1 x18) s=some t){e:Env}{h:Heap}(hI:I190_2 a1 x18 lo s e h):W A c190_2 e h (P190_2 a1 x18 t):=by
 show W A (.block 2 (.loop false b190_2)) e h _;rw[W_block];refine W_forR hF 3 (by rcases s with⟨_,_⟩; obtain⟨_,_,_,rfl,_⟩:=hI; rfl) (I190_2 a1 x18) hI ?_ ?_
 ·rintro v40_2 ⟨o1_2,o2_2⟩ e h ⟨u21,u22,k23,rfl,h_20⟩ hlt hw o ho
  unfold F190_2_B at ho;dsimp only at ho;obtain⟨x25,gx25,ho⟩:=bS ho;obtain⟨w26a,w26b⟩:=getI_w gx25;obtain⟨l27,gl27,ho⟩:=bS ho;have w28:sliceV 1 (V.isl (x25.map Enc.enc)) none (some (V.int .i64 a1))=some (V.isl (l27.map Enc.enc)):=sliceV_w (α:=Int) One.one gl27 (.inl ⟨rfl,rfl⟩) (.inr rfl);obtain⟨x29,gx29,ho⟩:=bS ho;have w30:ans A 92 [V.isl (l27.map Enc.enc)]=some (V.bool x29):=s92 l27 gx29;cases x29 with
  |true=>
   rw[if_pos rfl]at ho;cases ho;simp only[simprocAttr,R0,b190_2,h_20,eq_true hlt,hw,w26a,w26b,w28,w30];refine And.intro rfl (Exists.intro _ (Exists.intro _ (Exists.intro _ (And.intro rfl ?_))));simp only[simprocAttr,R0,h_20,eq_true hlt,hw,w26a,w26b,w28,w30]
  |false=>
   rw[if_neg Bool.false_ne_true]at ho;obtain⟨x31,gx31,ho⟩:=bS ho;have w32:ans A 96 [V.isl (l27.map Enc.enc)]=some (V.isl (x31.map Enc.enc)):=s96 l27 gx31;obtain⟨l34,gl34,ho⟩:=bS ho;have w33:=fun a b c d e=> appendV_w (α:=List Int) (n:=o1_2.length) (m:=1) (ds:=[V.isl (x31.map Enc.enc)]) gl34 (by first|rfl|simp) (by first|rfl|simp) rfl a b c d e;have w33l:=app_len gl34;obtain⟨l35,gl35,ho⟩:=bS ho;have w36:sliceV 1 (V.isl (x25.map Enc.enc)) (some (V.int .i64 a1)) none=some (V.isl (l35.map Enc.enc)):=sliceV_w (α:=Int) One.one gl35 (.inr rfl) (.inl ⟨rfl,rfl⟩);obtain⟨x37,gx37,ho⟩:=bS ho;have w38:ans A 96 [V.isl (l35.map Enc.enc)]=some (V.isl (x37.map Enc.enc)):=s96 l35 gx37;obtain⟨l40,gl40,ho⟩:=bS ho;have w39:=fun a b c d e=> appendV_w (α:=List Int) (n:=o2_2.length) (m:=1) (ds:=[V.isl (x37.map Enc.enc)]) gl40 (by first|rfl|simp) (by first|rfl|simp) rfl a b c d e;have w39l:=app_len gl40;cases ho;simp only[simprocAttr,R0,b190_2,h_20,eq_true hlt,hw,w26a,w26b,w28,w30,w32,w33,w36,w38,w39];refine And.intro rfl (Exists.intro _ (Exists.intro _ (Exists.intro _ (And.intro rfl ?_))));simp only[simprocAttr,R0,h_20,eq_true hlt,hw,w26a,w26b,w28,w30,w32,w33,w36,w38,w39]
 ·rintro v40_2 ⟨o1_2,o2_2⟩ e h ⟨u21,u22,k23,rfl,h_20⟩ hge t1 ho
  unfold F190_2_D at ho;dsimp only at ho;cases ho;simp only[simprocAttr,R0,b190_2,h_20,eq_false hge];intro ht; subst ht;refine And.intro rfl (Exists.intro _ (Exists.intro _ (Exists.intro _ (And.intro rfl ?_))));simp only[simprocAttr,R0,h_20,eq_false hge]
theorem s190(a0:Int)(a1:Int)(a2:List (List Int)){r:T2 (List (List Int)) (List (List Int))}(hF:F190 a0 a1 a2=some r):ans A 190 [V.int .i64 a0,V.int .i64 a1,V.isl (a2.map Enc.enc)]=some (EncR.enc r):=by
 refine ans_of (f:=p190) rfl rfl rfl fun e hl he=>?_;have h0_0:e.at 0=V.int .i64 a0:=he 0 _ rfl;have h1_0:e.at 1=V.int .i64 a1:=he 1 _ rfl;have h2_0:e.at 2=V.isl (a2.map Enc.enc):=he 2 _ rfl;have hl_0:e.length=66:=hl;clear he hl;show W A b190 e ⟨[],0⟩ _;unfold F190 at hF;obtain⟨zo0_1,gt17,hF⟩:=bS hF;simp only[simprocAttr,R0,b190,hl_0,h0_0,h1_0,h2_0];refine W.mono (l190_1 a0 a1 a2 gt17 (Exists.intro _ (Exists.intro _ (And.intro rfl ?_)))) ?_
 ·simp only[simprocAttr,R0,hl_0,h0_0,h1_0,h2_0]
 rintro _ e _ ⟨rfl,u2,k3,rfl,h_4⟩;obtain⟨x18,gx18,hF⟩:=bS hF;have w19:ans A 133 [V.int .i64 a0,V.isl (zo0_1.map Enc.enc)]=some (V.isl (x18.map Enc.enc)):=s133 a0 zo0_1 gx18;obtain⟨⟨zo1_2,zo2_2⟩,gt41,hF⟩:=bS hF;dsimp only at hF;simp only[simprocAttr,R0,h_4,takes (α:=List Int) zo0_1,w19];refine W.mono (l190_2 a1 x18 gt41 (Exists.intro _ (Exists.intro _ (Exists.intro _ (And.intro rfl ?_))))) ?_
 ·simp only[simprocAttr,R0,h_4,takes (α:=List Int) zo0_1,w19]
 rintro _ e _ ⟨rfl,u21,u22,k23,rfl,h_24⟩;cases hF;simp only[simprocAttr,R0,h_24];exact fin_ret (by simp only[simprocAttr,R0,fn_out,p190,Rs.ev,take_len_self,h_24,frzs (α:=List Int) zo1_2,takes (α:=List Int) zo1_2,frzs (α:=List Int) zo2_2,takes (α:=List Int) zo2_2])
def F173_1_B(a0:Int)(a2:List Int)(a3:Int)(v16_1:Int)(o0_1:(List Int)):Option (((List Int))⊕((List Int))):=
 (getI a2 v16_1).bind fun x7=>
(getI o0_1 v16_1).bind fun x9=>
(chk (a3*x7)).bind fun x11=>
(chk (x9+x11)).bind fun x12=>
(remI x12 a0).bind fun x13=>
(setI o0_1 v16_1 x13).bind fun l15=>
some (.inl l15)
def F173_1_D(a0:Int)(a2:List Int)(a3:Int)(v16_1:Int)(o0_1:(List Int)):Option ((List Int)):=
 some o0_1
def F173(a0:Int)(a1:List Int)(a2:List Int)(a3:Int):Option (List Int):=
 (F96 a1).bind fun x1=>
 (forR 0 (a2.length:Int) (F173_1_B a0 a2 a3) (F173_1_D a0 a2 a3) x1).bind fun zo0_1=>
 some zo0_1
def I173_1(a0:Int)(a2:List Int)(a3:Int)(v16_1:Int)(o0_1:(List Int))(e:Env)(h:Heap):Prop:=
 ∃u4 k5:Nat,h=⟨[(u4,some (o0_1.map Enc.enc))],k5⟩∧e.length=36∧e.at 0=V.int .i64 a0∧e.at 3=V.int .i64 a3∧e.at 9=V.sl 0 u4 0 o0_1.length 1∧e.at 14=V.isl (a2.map Enc.enc)∧e.at 15=V.int .i64 (a2.length:Int)∧e.at 16=V.int .i64 v16_1
def P173_1(a0:Int)(a2:List Int)(a3:Int)(zo0_1:(List Int))(x:Ex)(e:Env)(h:Heap):Prop:=
 x= .normal∧∃u4 k5:Nat,h=⟨[(u4,some (zo0_1.map Enc.enc))],k5⟩∧e.length=36∧e.at 9=V.sl 0 u4 0 zo0_1.length 1
theorem l173_1(a0:Int)(a2:List Int)(a3:Int){lo:Int}{s:(List Int)}{t:(List Int)}(hF:forR lo (a2.length:Int) (F173_1_B a0 a2 a3) (F173_1_D a0 a2 a3) s=some t){e:Env}{h:Heap}(hI:I173_1 a0 a2 a3 lo s e h):W A c173_1 e h (P173_1 a0 a2 a3 t):=by
 show W A (.block 0 (.loop false b173_1)) e h _;rw[W_block];refine W_forR hF 1 (by obtain⟨_,_,rfl,_⟩:=hI; rfl) (I173_1 a0 a2 a3) hI ?_ ?_
 ·rintro v16_1 o0_1 e h ⟨u4,k5,rfl,h_3⟩ hlt hw o ho
  unfold F173_1_B at ho;obtain⟨x7,gx7,ho⟩:=bS ho;obtain⟨w8a,w8b⟩:=getI_w gx7;obtain⟨x9,gx9,ho⟩:=bS ho;obtain⟨w10a,w10b⟩:=getI_w gx9;have w10c:=getI_lt gx9;have w10d:List.drop (Int.toNat v16_1) (o0_1.map Enc.enc)=(V.int .i64 x9)::List.drop ((Int.toNat v16_1)+1) (o0_1.map Enc.enc):=drop_enc w10b;obtain⟨x11,gx11,ho⟩:=bS ho;have wx11:=chk_w gx11;obtain⟨x12,gx12,ho⟩:=bS ho;have wx12:=chk_w gx12;obtain⟨x13,gx13,ho⟩:=bS ho;obtain⟨w14a,w14b⟩:=rem_w gx13;obtain⟨l15,gl15,ho⟩:=bS ho;obtain⟨w16a,w16b,w16c,w16d,w16e⟩:=setI_w gl15;replace w16e:List.take (Int.toNat v16_1) (o0_1.map Enc.enc)++[V.int .i64 x13]++List.drop (Int.toNat v16_1+1) (o0_1.map Enc.enc)=List.map Enc.enc l15:=w16e;cases ho;simp only[simprocAttr,R0,b173_1,h_3,eq_true hlt,hw,w8a,w8b,w10a,w10b,w10c,w10d,wx11,wx12,eq_false w14a,w14b,w16a,w16b,w16c,w16e];refine And.intro rfl (Exists.intro _ (Exists.intro _ (And.intro rfl ?_)));simp only[simprocAttr,R0,h_3,eq_true hlt,hw,w8a,w8b,w10a,w10b,w10c,w10d,wx11,wx12,eq_false w14a,w14b,w16a,w16b,w16c,w16e,w16d]
 ·rintro v16_1 o0_1 e h ⟨u4,k5,rfl,h_3⟩ hge t1 ho
  unfold F173_1_D at ho;cases ho;simp only[simprocAttr,R0,b173_1,h_3,eq_false hge];intro ht; subst ht;refine And.intro rfl (Exists.intro _ (Exists.intro _ (And.intro rfl ?_)));simp only[simprocAttr,R0,h_3,eq_false hge]
theorem s173(a0:Int)(a1:List Int)(a2:List Int)(a3:Int){r:List Int}(hF:F173 a0 a1 a2 a3=some r):ans A 173 [V.int .i64 a0,V.isl (a1.map Enc.enc),V.isl (a2.map Enc.enc),V.int .i64 a3]=some (Enc.enc r):=by
 refine ans_of (f:=p173) rfl rfl rfl fun e hl he=>?_;have h0_0:e.at 0=V.int .i64 a0:=he 0 _ rfl;have h1_0:e.at 1=V.isl (a1.map Enc.enc):=he 1 _ rfl;have h2_0:e.at 2=V.isl (a2.map Enc.enc):=he 2 _ rfl;have h3_0:e.at 3=V.int .i64 a3:=he 3 _ rfl;have hl_0:e.length=36:=hl;clear he hl;show W A b173 e ⟨[],0⟩ _;unfold F173 at hF;obtain⟨x1,gx1,hF⟩:=bS hF;have w2:tans A 96 [1] [V.isl (a1.map Enc.enc)]=some (V.isl (x1.map Enc.enc)):=t96 a1 gx1;have w2t:=thaw_one (α:=Int) x1;obtain⟨zo0_1,gt17,hF⟩:=bS hF;simp only[simprocAttr, -Int.reduceNatCast',R0,b173,hl_0,h0_0,h1_0,h2_0,h3_0,w2,w2t];refine W.mono (l173_1 a0 a2 a3 gt17 (Exists.intro _ (Exists.intro _ (And.intro rfl ?_)))) ?_
 ·simp only[simprocAttr, -Int.reduceNatCast',R0,hl_0,h0_0,h1_0,h2_0,h3_0,w2,w2t]
 rintro _ e _ ⟨rfl,u4,k5,rfl,hl_6,h9_6⟩;have hE:=Option.some.inj hF; subst hE;simp only[simprocAttr, -Int.reduceNatCast',R0,hl_6,h9_6];exact fin_ret (by simp only[simprocAttr, -Int.reduceNatCast',R0,fn_out,p173,Rs.ev,take_len_self,hl_6,h9_6,frzs (α:=Int) zo0_1,takes (α:=Int) zo0_1])
def F191(a0:GComplex)(a1:Int)(a2:List Int):Option (T3 (List Int) (List Int) (List Int)):=
 (F100 a0 a1).bind fun x1=>
 (F205 a0.Prime a2 x1).bind fun x3=>
 (chk (a0.Prime - 1)).bind fun x5=>
 (F173 a0.Prime a2 x3 x5).bind fun x6=>
 (F186 a0 a1).bind fun x8=>
 (F205 a0.Prime x6 x8).bind fun x10=>
 (F173 a0.Prime x6 x10 x5).bind fun x12=>
 some ⟨x12,x10,x3⟩
theorem s191(a0:GComplex)(a1:Int)(a2:List Int){r:T3 (List Int) (List Int) (List Int)}(hF:F191 a0 a1 a2=some r):ans A 191 [(eC a0),V.int .i64 a1,V.isl (a2.map Enc.enc)]=some (EncR.enc r):=by
 refine ans_of (f:=p191) rfl rfl rfl fun e hl he=>?_;have h0_0:e.at 0=(eC a0):=he 0 _ rfl;have h1_0:e.at 1=V.int .i64 a1:=he 1 _ rfl;have h2_0:e.at 2=V.isl (a2.map Enc.enc):=he 2 _ rfl;have hl_0:e.length=41:=hl;clear he hl;show W A b191 e ⟨[],0⟩ _;unfold F191 at hF;obtain⟨x1,gx1,hF⟩:=bS hF;have w2:ans A 100 [(eC a0),V.int .i64 a1]=some (V.isl (x1.map Enc.enc)):=s100 a0 a1 gx1;obtain⟨x3,gx3,hF⟩:=bS hF;have w4:ans A 205 [V.int .i64 a0.Prime,V.isl (a2.map Enc.enc),V.isl (x1.map Enc.enc)]=some (V.isl (x3.map Enc.enc)):=s205 a0.Prime a2 x1 gx3;obtain⟨x5,gx5,hF⟩:=bS hF;have wx5:=chk_w gx5;obtain⟨x6,gx6,hF⟩:=bS hF;have w7:ans A 173 [V.int .i64 a0.Prime,V.isl (a2.map Enc.enc),V.isl (x3.map Enc.enc),V.int .i64 x5]=some (V.isl (x6.map Enc.enc)):=s173 a0.Prime a2 x3 x5 gx6;obtain⟨x8,gx8,hF⟩:=bS hF;have w9:ans A 186 [(eC a0),V.int .i64 a1]=some (V.isl (x8.map Enc.enc)):=s186 a0 a1 gx8;obtain⟨x10,gx10,hF⟩:=bS hF;have w11:ans A 205 [V.int .i64 a0.Prime,V.isl (x6.map Enc.enc),V.isl (x8.map Enc.enc)]=some (V.isl (x10.map Enc.enc)):=s205 a0.Prime x6 x8 gx10;obtain⟨x12,gx12,hF⟩:=bS hF;have w13:ans A 173 [V.int .i64 a0.Prime,V.isl (x6.map Enc.enc),V.isl (x10.map Enc.enc),V.int .i64 x5]=some (V.isl (x12.map Enc.enc)):=s173 a0.Prime x6 x10 x5 gx12;cases hF;simp only[simprocAttr,R0,b191,hl_0,h0_0,h1_0,h2_0,w2,w4,wx5,w7,w9,w11,w13];exact fin_ret (by simp only[simprocAttr,R0,fn_out,p191,Rs.ev,take_len_self,hl_0,h0_0,h1_0,h2_0,w2,w4,wx5,w7,w9,w11,w13])
end
end Rv
