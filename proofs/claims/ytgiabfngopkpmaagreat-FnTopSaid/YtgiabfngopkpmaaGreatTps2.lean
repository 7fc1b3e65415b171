/- What the abstract code answers: typed functions, part 3. -/
import Derived.Test.YtgiabfngopkpmaaGreatTps1
set_option maxHeartbeats 8000000
namespace Rv
open Enc (enc)
set_option linter.unusedVariables false
set_option linter.unusedSimpArgs false
set_option maxRecDepth 100000
noncomputable section
def F185_1_B(a0:qg)(a2:Int)(x8:List (List Int))(v30_1:Int)(o1_1:(List (List Int))):Option (((List (List Int)))⊕((List (List Int)))):=
 (getI x8 v30_1).bind fun x14=>
(chk (a2+1)).bind fun x16=>
(F91 a0.Complex x16 x14).bind fun x17=>
(app 24 o1_1 [x17]).bind fun l20=>
some (.inl l20)
def F185_1_D(a0:qg)(a2:Int)(x8:List (List Int))(v30_1:Int)(o1_1:(List (List Int))):Option ((List (List Int))):=
 some o1_1
def F185(a0:qg)(a1:Int)(a2:Int)(a3:Int):Option (List (List Int)):=
 (chk (a1 - 1)).bind fun x1=>
 (chk (a3 - 1)).bind fun x2=>
 (F184 a0 x1 a2 x2).bind fun x3=>
 (chk (a2+1)).bind fun x5=>
 (chk (a3+a1)).bind fun x6=>
 (chk (x6 - 1)).bind fun x7=>
 (F184 a0 x1 x5 x7).bind fun x8=>
 (forR 0 (x8.length:Int) (F185_1_B a0 a2 x8) (F185_1_D a0 a2 x8) x3).bind fun zo1_1=>
 (F133 a0.Complex.Prime zo1_1).bind fun x22=>
 some x22
def I185_1(a0:qg)(a2:Int)(x8:List (List Int))(v30_1:Int)(o1_1:(List (List Int)))(e:Env)(h:Heap):Prop:=
 ∃u11 k12:Nat,h=⟨[(0,none),(u11,some (o1_1.map enc))],k12⟩∧e.length=49∧e.at 2=V.int .i64 a2∧e.at 4=V.iptr [V.int .i64 a0.Complex.Prime,V.isl (a0.Complex.Dims.map enc),V.isl (a0.Complex.Maps.map enc),V.isl (a0.Levels.map enc)]∧e.at 9=V.sl 1 u11 0 o1_1.length 1∧e.at 28=V.isl (x8.map enc)∧e.at 29=V.int .i64 (x8.length:Int)∧e.at 30=V.int .i64 v30_1
def P185_1(a0:qg)(a2:Int)(x8:List (List Int))(zo1_1:(List (List Int)))(x:Ex)(e:Env)(h:Heap):Prop:=
 x= .normal∧∃u11 k12:Nat,h=⟨[(0,none),(u11,some (zo1_1.map enc))],k12⟩∧e.length=49∧e.at 4=V.iptr [V.int .i64 a0.Complex.Prime,V.isl (a0.Complex.Dims.map enc),V.isl (a0.Complex.Maps.map enc),V.isl (a0.Levels.map enc)]∧e.at 9=V.sl 1 u11 0 zo1_1.length 1
theorem l185_1(a0:qg)(a2:Int)(x8:List (List Int)){lo:Int}{s:(List (List Int))}{t:(List (List Int))}(hF:forR lo (x8.length:Int) (F185_1_B a0 a2 x8) (F185_1_D a0 a2 x8) s=some t){e:Env}{h:Heap}(hI:I185_1 a0 a2 x8 lo s e h):W A c185_1 e h (P185_1 a0 a2 x8 t):=by
 show W A (.block 0 (.loop false b185_1)) e h _;rw[ql];refine qq hF 2 (by obtain⟨_,_,rfl,_⟩:=hI; rfl) (I185_1 a0 a2 x8) hI ?_ ?_
 ·rintro v30_1 o1_1 e h ⟨u11,k12,rfl,h_10⟩ hlt hw o ho
  unfold F185_1_B at ho;obtain⟨x14,gx14,ho⟩:=bS ho;obtain⟨w15a,w15b⟩:=qm gx14;obtain⟨x16,gx16,ho⟩:=bS ho;have wx16:=qx gx16;obtain⟨x17,gx17,ho⟩:=bS ho;have w18:=s91 a0.Complex x16 x14 gx17;obtain⟨l20,gl20,ho⟩:=bS ho;have w19:=fun a b c d e=> qE (α:=List Int) (n:=o1_1.length) (m:=1) (ds:=[V.isl (x17.map enc)]) gl20 (by first|rfl|simp) (by first|rfl|simp) rfl a b c d e;have w19l:=qQ gl20;cases ho;simp only[simprocAttr,R0,b185_1, *];refine ai rfl (ei _ (ei _ (ai rfl ?_)));simp only[simprocAttr,R0, *]
 ·rintro v30_1 o1_1 e h ⟨u11,k12,rfl,h_10⟩ hge t1 ho
  unfold F185_1_D at ho;cases ho;simp only[simprocAttr,R0,b185_1, *];intro ht; subst ht;refine ai rfl (ei _ (ei _ (ai rfl ?_)));simp only[simprocAttr,R0, *]
theorem s185(a0:qg)(a1:Int)(a2:Int)(a3:Int){r:List (List Int)}(hF:F185 a0 a1 a2 a3=some r):ans A 185 [(eF a0),V.int .i64 a1,V.int .i64 a2,V.int .i64 a3]=some (enc r):=by
 refine qp (f:=p185) rfl rfl rfl fun e hl he=>?_;have h0_0:e.at 0=(eF a0):=he 0 _ rfl;have h1_0:e.at 1=V.int .i64 a1:=he 1 _ rfl;have h2_0:e.at 2=V.int .i64 a2:=he 2 _ rfl;have h3_0:e.at 3=V.int .i64 a3:=he 3 _ rfl;have hl_0:e.length=49:=hl;clear he hl;show W A b185 e ⟨[],0⟩ _;unfold F185 at hF;obtain⟨x1,gx1,hF⟩:=bS hF;have wx1:=qx gx1;obtain⟨x2,gx2,hF⟩:=bS hF;have wx2:=qx gx2;obtain⟨x3,gx3,hF⟩:=bS hF;have w4:tans A 184 [1] [(eF a0),V.int .i64 x1,V.int .i64 a2,V.int .i64 x2]=some (V.isl (x3.map enc)):=t184 a0 x1 a2 x2 gx3;have w4t:=qY (α:=List Int) x3;obtain⟨x5,gx5,hF⟩:=bS hF;have wx5:=qx gx5;obtain⟨x6,gx6,hF⟩:=bS hF;have wx6:=qx gx6;obtain⟨x7,gx7,hF⟩:=bS hF;have wx7:=qx gx7;obtain⟨x8,gx8,hF⟩:=bS hF;have w9:=s184 a0 x1 x5 x7 gx8;obtain⟨zo1_1,gt21,hF⟩:=bS hF;simp only[simprocAttr,R0,b185, *];refine W.mono (l185_1 a0 a2 x8 gt21 (ei _ (ei _ (ai rfl ?_)))) ?_
 ·simp only[simprocAttr,R0, *]
 rintro _ e _ ⟨rfl,u11,k12,rfl,h_13⟩;obtain⟨x22,gx22,hF⟩:=bS hF;have w23:=s133 a0.Complex.Prime zo1_1 gx22;cases hF;simp only[simprocAttr,R0,qG (α:=List Int) zo1_1, *];exact qc (by simp only[simprocAttr,R0,qd,p185,Rs.ev,qa,qG (α:=List Int) zo1_1, *])
def F169(a0:qg)(a1:Int)(a2:Int)(a3:Int):Option Int:=
 (F184 a0 a1 a2 a3).bind fun x1=>
 (F185 a0 a1 a2 a3).bind fun x5=>
 (chk ((x1.length:Int) - (x5.length:Int))).bind fun x9=>
 some x9
theorem s169(a0:qg)(a1:Int)(a2:Int)(a3:Int){r:Int}(hF:F169 a0 a1 a2 a3=some r):ans A 169 [(eF a0),V.int .i64 a1,V.int .i64 a2,V.int .i64 a3]=some (enc r):=by
 refine qp (f:=p169) rfl rfl rfl fun e hl he=>?_;have h0_0:e.at 0=(eF a0):=he 0 _ rfl;have h1_0:e.at 1=V.int .i64 a1:=he 1 _ rfl;have h2_0:e.at 2=V.int .i64 a2:=he 2 _ rfl;have h3_0:e.at 3=V.int .i64 a3:=he 3 _ rfl;have hl_0:e.length=22:=hl;clear he hl;show W A b169 e ⟨[],0⟩ _;unfold F169 at hF;obtain⟨x1,gx1,hF⟩:=bS hF;have w2:=s184 a0 a1 a2 a3 gx1;have w4:=s89 x1 rfl;obtain⟨x5,gx5,hF⟩:=bS hF;have w6:=s185 a0 a1 a2 a3 gx5;have w8:=s89 x5 rfl;obtain⟨x9,gx9,hF⟩:=bS hF;have wx9:=qx gx9;cases hF;simp only[simprocAttr,R0,b169, *];exact qc (by simp only[simprocAttr,R0,qd,p169,Rs.ev,qa, *])
def F163(a0:Int)(a1:Int)(d0:qg)(d1:Int):Option Int:=
 (F169 d0 d1 a0 a1).bind fun x1=>
 some x1
theorem s163(a0:Int)(a1:Int)(d0:qg)(d1:Int){r:Int}(hF:F163 a0 a1 d0 d1=some r):ans A 163 [V.int .i64 a0,V.int .i64 a1,V.iptr [V.int .i64 d0.Complex.Prime,V.isl (d0.Complex.Dims.map enc),V.isl (d0.Complex.Maps.map enc),V.isl (d0.Levels.map enc)],V.iptr [V.int .i64 d1]]=some (enc r):=by
 refine qp (f:=p163) rfl rfl rfl fun e hl he=>?_;have h0_0:e.at 0=V.int .i64 a0:=he 0 _ rfl;have h1_0:e.at 1=V.int .i64 a1:=he 1 _ rfl;have h2_0:e.at 2=V.iptr [V.int .i64 d0.Complex.Prime,V.isl (d0.Complex.Dims.map enc),V.isl (d0.Complex.Maps.map enc),V.isl (d0.Levels.map enc)]:=he 2 _ rfl;have h3_0:e.at 3=V.iptr [V.int .i64 d1]:=he 3 _ rfl;have hl_0:e.length=12:=hl;clear he hl;show W A b163 e ⟨[],0⟩ _;unfold F163 at hF;obtain⟨x1,gx1,hF⟩:=bS hF;have w2:=s169 d0 d1 a0 a1 gx1;cases hF;simp only[simprocAttr,R0,b163, *];exact qc (by simp only[simprocAttr,R0,qd,p163,Rs.ev,qa, *])
def F164_1_B(a0:List (List Int))(a1:List (List Int))(f2:(List Int)→(List Int)→Option Bool)(v17_1:Int)(s:Unit):Option ((Unit)⊕((Unit)⊕Bool)):=
 (getI a0 v17_1).bind fun x5=>
(getI a1 v17_1).bind fun x7=>
(f2 x5 x7).bind fun x9=>
if x9=true then
 some (.inl ())
else
 some (.inr (.inr false))
def F164_1_D(a0:List (List Int))(a1:List (List Int))(f2:(List Int)→(List Int)→Option Bool)(v17_1:Int)(s:Unit):Option ((Unit)⊕Bool):=
 some (.inl ())
def F164(a0:List (List Int))(a1:List (List Int))(f2:(List Int)→(List Int)→Option Bool):Option Bool:=
 if(a0.length:Int)=(a1.length:Int)then
  (forR 0 (a0.length:Int) (F164_1_B a0 a1 f2) (F164_1_D a0 a1 f2) ()).bind fun t11=> match t11 with
   | .inl _=>
    some true
   | .inr r12=> some r12
 else
  some false
def I164_1(a0:List (List Int))(a1:List (List Int))(f2:(List Int)→(List Int)→Option Bool)(vf2:V)(v17_1:Int)(s:Unit)(e:Env)(h:Heap):Prop:=
 ∃k3:Nat,h=⟨[],k3⟩∧e.length=32∧e.at 1=V.isl (a1.map enc)∧e.at 2=vf2∧e.at 15=V.isl (a0.map enc)∧e.at 16=V.int .i64 (a0.length:Int)∧e.at 17=V.int .i64 v17_1
def P164_1(a0:List (List Int))(a1:List (List Int))(f2:(List Int)→(List Int)→Option Bool)(vf2:V)(t:(Unit)⊕Bool)(x:Ex)(e:Env)(h:Heap):Prop:=
 match t with
 | .inl _=> x= .normal∧∃k3:Nat,h=⟨[],k3⟩∧e.length=32
 | .inr r=> x= .ret∧Fin p164 (enc r) .ret e h
theorem l164_1(a0:List (List Int))(a1:List (List Int))(f2:(List Int)→(List Int)→Option Bool)(vf2:V)(hf2:Clo2 A vf2 f2){lo:Int}{s:Unit}{t:(Unit)⊕Bool}(hF:forR lo (a0.length:Int) (F164_1_B a0 a1 f2) (F164_1_D a0 a1 f2) s=some t){e:Env}{h:Heap}(hI:I164_1 a0 a1 f2 vf2 lo s e h):W A c164_1 e h (P164_1 a0 a1 f2 vf2 t):=by
 obtain⟨g_f2,fs_f2,cs_f2,hv_f2,hc_f2⟩:=id hf2;show W A (.block 0 (.loop false b164_1)) e h _;rw[ql];refine qq hF 0 (by obtain⟨_,rfl,_⟩:=hI; rfl) (I164_1 a0 a1 f2 vf2) hI ?_ ?_
 ·rintro v17_1 _ e h ⟨k3,rfl,h_2⟩ hlt hw o ho
  unfold F164_1_B at ho;obtain⟨x5,gx5,ho⟩:=bS ho;obtain⟨w6a,w6b⟩:=qm gx5;obtain⟨x7,gx7,ho⟩:=bS ho;obtain⟨w8a,w8b⟩:=qm gx7;obtain⟨x9,gx9,ho⟩:=bS ho;have w10a:∀h,mapO (frz h 16) (fs_f2++[V.isl (x5.map enc),V.isl (x7.map enc)]++cs_f2)=some (fs_f2++[V.isl (x5.map enc),V.isl (x7.map enc)]++cs_f2):=fun h=> hc_f2.zf x5 x7 h;have w10b:List.all (fs_f2++[V.isl (x5.map enc),V.isl (x7.map enc)]++cs_f2) (qu 16)=true:=hc_f2.zr x5 x7;have w10c:ans A g_f2 (fs_f2++[V.isl (x5.map enc),V.isl (x7.map enc)]++cs_f2)=some (V.bool x9):=hc_f2.ka x5 x7 _ gx9;cases x9 with
  |true=>
   rw[if_pos rfl]at ho;cases ho;simp only[simprocAttr,R0,b164_1, *];refine ai rfl (ei _ (ai rfl ?_));simp only[simprocAttr,R0, *]
  |false=>
   rw[if_neg wE]at ho;cases ho;simp only[simprocAttr,R0,b164_1, *];intro ht; subst ht;simp only[simprocAttr,RR,RB];exact ai rfl (qc (by simp only[simprocAttr,R0,qd,p164,Rs.ev,qa, *]))
 ·rintro v17_1 _ e h ⟨k3,rfl,h_2⟩ hge t1 ho
  unfold F164_1_D at ho;cases ho;simp only[simprocAttr,R0,b164_1, *];intro ht; subst ht;refine ai rfl (ei _ (ai rfl ?_));simp only[simprocAttr,R0, *]
theorem s164(a0:List (List Int))(a1:List (List Int))(f2:(List Int)→(List Int)→Option Bool){vf2:V}(hf2:Clo2 A vf2 f2){r:Bool}(hF:F164 a0 a1 f2=some r):ans A 164 [V.isl (a0.map enc),V.isl (a1.map enc),vf2]=some (enc r):=by
 refine qp (f:=p164) rfl rfl rfl fun e hl he=>?_;have h0_0:e.at 0=V.isl (a0.map enc):=he 0 _ rfl;have h1_0:e.at 1=V.isl (a1.map enc):=he 1 _ rfl;have h2_0:e.at 2=vf2:=he 2 _ rfl;obtain⟨g_f2,fs_f2,cs_f2,hv_f2,hc_f2⟩:=id hf2;have hl_0:e.length=32:=hl;clear he hl;have h_0:=ai hl_0 (ai h0_0 (ai h1_0 h2_0));show W A b164 e ⟨[],0⟩ _;unfold F164 at hF;by_cases c1:(a0.length:Int)=(a1.length:Int)
 ·rw[if_pos c1]at hF
  obtain⟨t11,gt11,hF⟩:=bS hF;rcases t11 with _|r12
  ·dsimp only at hF
   simp only[simprocAttr,R0,b164, *];refine W.mono (l164_1 a0 a1 f2 vf2 hf2 gt11 (ei _ (ai rfl ?_))) ?_
   ·simp only[simprocAttr,R0, *]
   rintro _ e _ ⟨rfl,k3,rfl,hl_4⟩;cases hF;simp only[simprocAttr,R0, *];exact qc (by simp only[simprocAttr,R0,qd,p164,Rs.ev,qa, *])
  ·dsimp only at hF
   cases hF;simp only[simprocAttr,R0,b164, *];refine W.mono (l164_1 a0 a1 f2 vf2 hf2 gt11 (ei _ (ai rfl ?_))) ?_
   ·simp only[simprocAttr,R0, *]
   rintro _ e h ⟨rfl,hq⟩;simp only[simprocAttr,RR,RB];exact hq
 ·rw[if_neg c1]at hF
  cases hF;simp only[simprocAttr,R0,b164, *];exact qc (by simp only[simprocAttr,R0,qd,p164,Rs.ev,qa, *])
def F165_1_B(a0:List Int)(a1:List Int)(v13_1:Int)(s:Unit):Option ((Unit)⊕((Unit)⊕Bool)):=
 (getI a0 v13_1).bind fun x5=>
(getI a1 v13_1).bind fun x7=>
if x5=x7 then
 some (.inl ())
else
 some (.inr (.inr false))
def F165_1_D(a0:List Int)(a1:List Int)(v13_1:Int)(s:Unit):Option ((Unit)⊕Bool):=
 some (.inl ())
def F165(a0:List Int)(a1:List Int):Option Bool:=
 if(a0.length:Int)=(a1.length:Int)then
  (forR 0 (a0.length:Int) (F165_1_B a0 a1) (F165_1_D a0 a1) ()).bind fun t10=> match t10 with
   | .inl _=>
    some true
   | .inr r11=> some r11
 else
  some false
def I165_1(a0:List Int)(a1:List Int)(v13_1:Int)(s:Unit)(e:Env)(h:Heap):Prop:=
 ∃k3:Nat,h=⟨[],k3⟩∧e.length=26∧e.at 0=V.isl (a0.map enc)∧e.at 1=V.isl (a1.map enc)∧e.at 12=V.int .i64 (a0.length:Int)∧e.at 13=V.int .i64 v13_1
def P165_1(a0:List Int)(a1:List Int)(t:(Unit)⊕Bool)(x:Ex)(e:Env)(h:Heap):Prop:=
 match t with
 | .inl _=> x= .normal∧∃k3:Nat,h=⟨[],k3⟩∧e.length=26
 | .inr r=> x= .ret∧Fin p165 (enc r) .ret e h
theorem l165_1(a0:List Int)(a1:List Int){lo:Int}{s:Unit}{t:(Unit)⊕Bool}(hF:forR lo (a0.length:Int) (F165_1_B a0 a1) (F165_1_D a0 a1) s=some t){e:Env}{h:Heap}(hI:I165_1 a0 a1 lo s e h):W A c165_1 e h (P165_1 a0 a1 t):=by
 show W A (.block 0 (.loop false b165_1)) e h _;rw[ql];refine qq hF 0 (by obtain⟨_,rfl,_⟩:=hI; rfl) (I165_1 a0 a1) hI ?_ ?_
 ·rintro v13_1 _ e h ⟨k3,rfl,h_2⟩ hlt hw o ho
  unfold F165_1_B at ho;obtain⟨x5,gx5,ho⟩:=bS ho;obtain⟨w6a,w6b⟩:=qm gx5;obtain⟨x7,gx7,ho⟩:=bS ho;obtain⟨w8a,w8b⟩:=qm gx7;by_cases c9:x5=x7
  ·rw[if_pos c9]at ho
   cases ho;simp only[simprocAttr,R0,b165_1, *];refine ai rfl (ei _ (ai rfl ?_));simp only[simprocAttr,R0, *]
  ·rw[if_neg c9]at ho
   cases ho;simp only[simprocAttr,R0,b165_1, *];intro ht; subst ht;simp only[simprocAttr,RR,RB];exact ai rfl (qc (by simp only[simprocAttr,R0,qd,p165,Rs.ev,qa, *]))
 ·rintro v13_1 _ e h ⟨k3,rfl,h_2⟩ hge t1 ho
  unfold F165_1_D at ho;cases ho;simp only[simprocAttr,R0,b165_1, *];intro ht; subst ht;refine ai rfl (ei _ (ai rfl ?_));simp only[simprocAttr,R0, *]
theorem s165(a0:List Int)(a1:List Int){r:Bool}(hF:F165 a0 a1=some r):ans A 165 [V.isl (a0.map enc),V.isl (a1.map enc)]=some (enc r):=by
 refine qp (f:=p165) rfl rfl rfl fun e hl he=>?_;have h0_0:e.at 0=V.isl (a0.map enc):=he 0 _ rfl;have h1_0:e.at 1=V.isl (a1.map enc):=he 1 _ rfl;have hl_0:e.length=26:=hl;clear he hl;have h_0:=ai hl_0 (ai h0_0 h1_0);show W A b165 e ⟨[],0⟩ _;unfold F165 at hF;by_cases c1:(a0.length:Int)=(a1.length:Int)
 ·rw[if_pos c1]at hF
  obtain⟨t10,gt10,hF⟩:=bS hF;rcases t10 with _|r11
  ·dsimp only at hF
   simp only[simprocAttr,R0,b165, *];refine W.mono (l165_1 a0 a1 gt10 (ei _ (ai rfl ?_))) ?_
   ·simp only[simprocAttr,R0, *]
   rintro _ e _ ⟨rfl,k3,rfl,hl_4⟩;cases hF;simp only[simprocAttr,R0, *];exact qc (by simp only[simprocAttr,R0,qd,p165,Rs.ev,qa, *])
  ·dsimp only at hF
   cases hF;simp only[simprocAttr,R0,b165, *];refine W.mono (l165_1 a0 a1 gt10 (ei _ (ai rfl ?_))) ?_
   ·simp only[simprocAttr,R0, *]
   rintro _ e h ⟨rfl,hq⟩;simp only[simprocAttr,RR,RB];exact hq
 ·rw[if_neg c1]at hF
  cases hF;simp only[simprocAttr,R0,b165, *];exact qc (by simp only[simprocAttr,R0,qd,p165,Rs.ev,qa, *])
def F147_S(x:qg)(lim:List (List Int))(r:Int):Option (Int⊕Int):=(F162 x fun a b=> F163 a b x r).bind fun t=>(F164 t lim fun a b=> F165 a b).bind fun b=> if b=true then some (.inr r)else(chk (r+1)).bind fun r'=> some (.inl r')
noncomputable def F147(a0:qg):Option (T2 Int Int):=(F41 a0).bind fun b=> if b=true then(F162 a0 fun a b=> F161 a0 a b).bind fun lim=>(jW (F147_S a0 lim) 1000 0).bind fun r=> some ⟨r,0⟩else some ⟨0,1⟩
theorem s147(a0:qg){r:T2 Int Int}(hF:F147 a0=some r):ans A 147 [(eF a0)]=some (EncR.enc r):=by
 refine qp (f:=p147) rfl rfl rfl fun e hl he=>?_;have h0_0:e.at 0=(eF a0):=he 0 _ rfl;have hl_0:e.length=22:=hl;clear he hl;show W A b147 e ⟨[],0⟩ _;unfold F147 at hF;obtain⟨b,gb,hF⟩:=bS hF;have wb:ans A 41 [(eF a0)]=some (V.bool b):=s41 a0 gb;by_cases c1:b=true
 ·subst c1
  rw[if_pos rfl]at hF;obtain⟨lim,glim,hF⟩:=bS hF;have wl:tans A 162 [1,1] [(eF a0),V.fn 161 [(eF a0)] []]=some (V.isl (lim.map enc)):=x162 a0 (fun x y=> F161 a0 x y)
   (Clo2.of (by intro h f; simp only[RZ,mapO]) (by intro h f; simp only[RZ,mapO]) (by intro f; simp only[RZ,RB]) (by intro f; simp only[RZ,RB]) (fun x y _ hr=> s161 a0 x y hr)) glim
  obtain⟨t,gt,hF⟩:=bS hF;have hE:=wB hF; subst hE;obtain⟨vl,⟨E1,k1⟩,K,t1,t2,t3,t4,t5⟩:=thawD (α:=List (List Int)) (by decide) lim ⟨[(0,none)],1⟩;have t1':thaw 16 [1,1] (V.isl (lim.map enc)) ⟨[(0,none)],1⟩=some (vl,⟨E1,k1⟩):=t1;simp only[simprocAttr, -Int.reduceNatCast',R0,b147,hl_0,h0_0,wb,wl,qK,t1',qy,jm];refine W.mono (Q:=fun x e h=> x= .normal∧e.length=22∧(∃u,h.ents[E1.length]? =some (u,some [V.int .i64 t])∧e.at 5=V.ptr E1.length u 0)) ?_ ?_
  ·show W A (.block 0 (.loop true b147_1)) _ _ _
   rw[ql];refine W_loop (zQ gt) _ rfl (fun s e h=> e.length=22∧e.at 1=V.iptr [V.int .i64 a0.Complex.Prime,V.isl (a0.Complex.Dims.map enc),V.isl (a0.Complex.Maps.map enc),V.isl (a0.Levels.map enc)]∧e.at 4=vl∧Deep.rep h vl lim K∧∃u,h.ents[E1.length]? =some (u,some [V.int .i64 s])∧e.at 5=V.ptr E1.length u 0) ?_ ?_
   ·simp only[simprocAttr, -Int.reduceNatCast',R0,hl_0,h0_0]
    exact⟨Deep.frame t2 fun k q=> List.getElem?_append_left (t3 k q).2,_,qy _ _,rfl⟩
   ·clear hl_0 h0_0
    rintro s e ⟨E,c⟩ ⟨hl_1,h1_1,h4_1,g1,u,g2,h5_1⟩ o ho;simp only at g2;unfold F147_S at ho;obtain⟨tb,gtb,ho⟩:=bS ho;have wt:tans A 162 [1,1] [(eF a0),V.fn 163 [] [V.iptr [V.int .i64 a0.Complex.Prime,V.isl (a0.Complex.Dims.map enc),V.isl (a0.Complex.Maps.map enc),V.isl (a0.Levels.map enc)],V.iptr [V.int .i64 s]]]=some (V.isl (tb.map enc)):=x162 a0 (fun x y=> F163 x y a0 s)
     (Clo2.of (by intro h f; simp only[RZ,mapO]) (by intro h f; simp only[RZ,mapO]) (by intro f; simp only[RZ,RB]) (by intro f; simp only[RZ,RB]) (fun x y _ hr=> s163 x y a0 s hr)) gtb
    obtain⟨bb,gbb,ho⟩:=bS ho;have we:ans A 164 [V.isl (tb.map enc),V.isl (lim.map enc),V.fn 165 [] []]=some (V.bool bb):=s164 tb lim (fun a b=> F165 a b)
     (Clo2.of (by intro h f; simp only[RZ,mapO]) (by intro h f; simp only[RZ,mapO]) (by intro f; simp only[RZ,RB]) (by intro f; simp only[RZ,RB]) (fun x y _ hr=> s165 x y hr)) gbb
    obtain⟨v2,⟨E2,k2⟩,K2,q1,q2,q3,q4,q5⟩:=thawD (α:=List (List Int)) (by decide) tb ⟨E,c⟩;have q1':thaw 16 [1,1] (V.isl (tb.map enc)) ⟨E,c⟩=some (v2,⟨E2,k2⟩):=q1;have z1:frz ⟨E2,k2⟩ 16 v2=some (V.isl (tb.map enc)):=Deep.fz q2 10;have g1':Deep.rep ⟨E2,k2⟩ vl lim K:=Deep.frame g1 fun k q=> q5 k (Deep.bd g1 q);have z2:frz ⟨E2,k2⟩ 16 vl=some (V.isl (lim.map enc)):=Deep.fz g1' 10;have hN:E1.length < E.length:=(List.getElem?_eq_some_iff.1 g2).1;have hN2:E1.length < E2.length:=Nat.lt_of_lt_of_le hN q4;have g2':E2[E1.length]? =some (u,some [V.int .i64 s]):=(q5 _ hN).trans g2;have wbr:bare 16 [1,1] (V.isl (tb.map enc))=true:=Deep.br (α:=List (List Int)) tb 10 [];by_cases c2:bb=true
    ·subst c2
     rw[if_pos rfl]at ho;have hE:=wB ho; subst hE;simp only[simprocAttr, -Int.reduceNatCast',R0,b147_1,hl_1,h1_1,h4_1,h5_1,g2,wt,wbr,qK,q1',z1,z2,we,g2'];intro ht; subst ht;simp only[simprocAttr, -Int.reduceNatCast',R0,hl_1,h1_1,h4_1,h5_1];exact⟨_,g2',rfl⟩
    ·have c3:bb=false:=by simpa using c2
     subst c3;rw[if_neg wE]at ho;obtain⟨n,gn,ho⟩:=bS ho;have wn:=qx gn;have hE:=wB ho; subst hE;simp only[simprocAttr, -Int.reduceNatCast',R0,b147_1,hl_1,h1_1,h4_1,h5_1,g2,wt,wbr,qK,q1',z1,z2,we,g2',wn];refine ai rfl ⟨?_,?_,?_,Deep.frame g1' fun k q=> qC (by have:=(t3 k q).2; simp only at this; omega),u,List.getElem?_set_self hN2,?_⟩
     all_goals simp only[simprocAttr, -Int.reduceNatCast',R0,hl_1,h1_1,h4_1,h5_1]
  ·clear hl_0 h0_0
   rintro _ e ⟨E,c⟩ ⟨rfl,hl_0,u,g2,h5_0⟩;simp only at g2;simp only[simprocAttr, -Int.reduceNatCast',R0,hl_0,h5_0,g2];exact qc (by simp only[simprocAttr, -Int.reduceNatCast',R0,qd,p147,Rs.ev,hl_0,h5_0])
 ·have c3:b=false:=by simpa using c1
  subst c3;rw[if_neg wE]at hF;have hE:=wB hF; subst hE;simp only[simprocAttr, -Int.reduceNatCast',R0,b147,hl_0,h0_0,wb];exact qc (by simp only[simprocAttr, -Int.reduceNatCast',R0,qd,p147,Rs.ev,hl_0])
def F166(a0:qg)(a1:Int)(a2:Int)(a3:Int):Option Int:=
 (F41 a0).bind fun x1=>
 if x1=true then
  (F56 a1 0 8).bind fun x3=>
  if x3=true then
   (F86 a0.Complex).bind fun x5=>
   (F56 a2 0 x5).bind fun x7=>
   if x7=true then
    (F56 a3 0 5).bind fun x9=>
    if x9=true then
     some 0
    else
     some 2
   else
    some 2
  else
   some 2
 else
  some 1
theorem s166(a0:qg)(a1:Int)(a2:Int)(a3:Int){r:Int}(hF:F166 a0 a1 a2 a3=some r):ans A 166 [(eF a0),V.int .i64 a1,V.int .i64 a2,V.int .i64 a3]=some (enc r):=by
 refine qp (f:=p166) rfl rfl rfl fun e hl he=>?_;have h0_0:e.at 0=(eF a0):=he 0 _ rfl;have h1_0:e.at 1=V.int .i64 a1:=he 1 _ rfl;have h2_0:e.at 2=V.int .i64 a2:=he 2 _ rfl;have h3_0:e.at 3=V.int .i64 a3:=he 3 _ rfl;have hl_0:e.length=30:=hl;clear he hl;have h_0:=ai hl_0 (ai h0_0 (ai h1_0 (ai h2_0 h3_0)));show W A b166 e ⟨[],0⟩ _;unfold F166 at hF;obtain⟨x1,gx1,hF⟩:=bS hF;have w2:=s41 a0 gx1;cases x1 with
 |true=>
  rw[if_pos rfl]at hF;obtain⟨x3,gx3,hF⟩:=bS hF;have w4:=s56 a1 0 8 gx3;cases x3 with
  |true=>
   rw[if_pos rfl]at hF;obtain⟨x5,gx5,hF⟩:=bS hF;have w6:=s86 a0.Complex gx5;obtain⟨x7,gx7,hF⟩:=bS hF;have w8:=s56 a2 0 x5 gx7;cases x7 with
   |true=>
    rw[if_pos rfl]at hF;obtain⟨x9,gx9,hF⟩:=bS hF;have w10:=s56 a3 0 5 gx9;cases x9 with
    |true=>
     rw[if_pos rfl]at hF;cases hF;simp only[simprocAttr,R0,b166, *];exact qc (by simp only[simprocAttr,R0,qd,p166,Rs.ev,qa, *])
    |false=>
     rw[if_neg wE]at hF;cases hF;simp only[simprocAttr,R0,b166, *];exact qc (by simp only[simprocAttr,R0,qd,p166,Rs.ev,qa, *])
   |false=>
    rw[if_neg wE]at hF;cases hF;simp only[simprocAttr,R0,b166, *];exact qc (by simp only[simprocAttr,R0,qd,p166,Rs.ev,qa, *])
  |false=>
   rw[if_neg wE]at hF;cases hF;simp only[simprocAttr,R0,b166, *];exact qc (by simp only[simprocAttr,R0,qd,p166,Rs.ev,qa, *])
 |false=>
  rw[if_neg wE]at hF;cases hF;simp only[simprocAttr,R0,b166, *];exact qc (by simp only[simprocAttr,R0,qd,p166,Rs.ev,qa, *])
def F167(a0:Int)(a1:Int)(d0:qg)(d1:Int):Option Int:=
 (F169 d0 d1 a0 a1).bind fun x1=>
 some x1
theorem s167(a0:Int)(a1:Int)(d0:qg)(d1:Int){r:Int}(hF:F167 a0 a1 d0 d1=some r):ans A 167 [V.int .i64 a0,V.int .i64 a1,V.iptr [V.int .i64 d0.Complex.Prime,V.isl (d0.Complex.Dims.map enc),V.isl (d0.Complex.Maps.map enc),V.isl (d0.Levels.map enc)],V.iptr [V.int .i64 d1]]=some (enc r):=by
 refine qp (f:=p167) rfl rfl rfl fun e hl he=>?_;have h0_0:e.at 0=V.int .i64 a0:=he 0 _ rfl;have h1_0:e.at 1=V.int .i64 a1:=he 1 _ rfl;have h2_0:e.at 2=V.iptr [V.int .i64 d0.Complex.Prime,V.isl (d0.Complex.Dims.map enc),V.isl (d0.Complex.Maps.map enc),V.isl (d0.Levels.map enc)]:=he 2 _ rfl;have h3_0:e.at 3=V.iptr [V.int .i64 d1]:=he 3 _ rfl;have hl_0:e.length=12:=hl;clear he hl;show W A b167 e ⟨[],0⟩ _;unfold F167 at hF;obtain⟨x1,gx1,hF⟩:=bS hF;have w2:=s169 d0 d1 a0 a1 gx1;cases hF;simp only[simprocAttr,R0,b167, *];exact qc (by simp only[simprocAttr,R0,qd,p167,Rs.ev,qa, *])
def F148(a0:qg)(a1:Int):Option (T2 (List (List Int)) Int):=
 (F166 a0 a1 0 0).bind fun x1=>
 if x1=0 then
  (F162 a0 (fun x y=> F167 x y a0 a1)).bind fun x4=>
  some ⟨x4,0⟩
 else
  some ⟨([]:List (List Int)),x1⟩
theorem d148(a0:qg)(a1:Int){r:T2 (List (List Int)) Int}(hF:F148 a0 a1=some r):∃v h',res A 148 [(eF a0),V.int .i64 a1] Heap.empty=some (v,h')∧∃vs K,v=V.tup vs∧repF h' vs [⟨r.a⟩,⟨r.b⟩] K:=by
 refine je (f:=p148) rfl rfl rfl fun e hl he=>?_;have h0_0:e.at 0=(eF a0):=he 0 _ rfl;have h1_0:e.at 1=V.int .i64 a1:=he 1 _ rfl;have hl_0:e.length=16:=hl;clear he hl;show W A b148 e ⟨[],0⟩ _;unfold F148 at hF;obtain⟨x1,gx1,hF⟩:=bS hF;have w2:=s166 a0 a1 0 0 gx1;by_cases c3:x1=0
 ·rw[if_pos c3]at hF
  obtain⟨x4,gx4,hF⟩:=bS hF;have w5:tans A 162 [1,1] [(eF a0),V.fn 167 [] [V.iptr [V.int .i64 a0.Complex.Prime,V.isl (a0.Complex.Dims.map enc),V.isl (a0.Complex.Maps.map enc),V.isl (a0.Levels.map enc)],V.iptr [V.int .i64 a1]]]=some (V.isl (x4.map enc)):=x162 a0 (fun x y=> F167 x y a0 a1)
   (Clo2.of (by intro h f; simp only[RZ,mapO]) (by intro h f; simp only[RZ,mapO]) (by intro f; simp only[RZ,RB]) (by intro f; simp only[RZ,RB]) (fun x y _ hr=> s167 x y a0 a1 hr)) gx4
  cases hF;obtain⟨v,⟨E1,c1⟩,K,t1,t2,t3,t4,t5⟩:=thawD (α:=List (List Int)) (by decide) x4 ⟨[(0,none),(0,none)],2⟩;have t1':thaw 16 [1,1] (V.isl (x4.map enc)) ⟨[(0,none),(0,none)],2⟩=some (v,⟨E1,c1⟩):=t1;simp only[simprocAttr,R0,b148,qK,t1', *];refine ai (fun _=> trivial) ⟨V.tup [v,V.int .i64 0],?_,_,_,rfl,pair_rep t2 _⟩;simp only[simprocAttr,R0,qd,p148,Rs.ev, *]
 ·rw[if_neg c3]at hF
  cases hF;simp only[simprocAttr,R0,b148, *];refine ai (fun _=> trivial) ⟨V.tup [V.nils,V.int .i64 x1],?_,_,_,rfl,pair_rep (α:=List (List Int)) (jn _) _⟩;simp only[simprocAttr,R0,qd,p148,Rs.ev, *]
theorem s148(a0:qg)(a1:Int){r:T2 (List (List Int)) Int}(hF:F148 a0 a1=some r):ans A 148 [(eF a0),V.int .i64 a1]=some (EncR.enc r):=by
 obtain⟨_,h',h1,vs,K,rfl,h2⟩:=d148 a0 a1 hF;exact ans_tup (ss:=[1,1]) (fits_pair rfl (by decide)) h1 h2
def F132(a0:Int)(a1:Int):Option (List Int):=
 (mkL 8 a0 0).bind fun l1=>
 (getI l1 a1).bind fun x3=>
 (setI l1 a1 1).bind fun l5=>
 some l5
theorem s132(a0:Int)(a1:Int){r:List Int}(hF:F132 a0 a1=some r):ans A 132 [V.int .i64 a0,V.int .i64 a1]=some (enc r):=by
 refine qp (f:=p132) rfl rfl rfl fun e hl he=>?_;have h0_0:e.at 0=V.int .i64 a0:=he 0 _ rfl;have h1_0:e.at 1=V.int .i64 a1:=he 1 _ rfl;have hl_0:e.length=12:=hl;clear he hl;show W A b132 e ⟨[],0⟩ _;unfold F132 at hF;obtain⟨l1,gl1,hF⟩:=bS hF;obtain⟨w2a,w2b,w2c,w2d,w2e⟩:=mkL_w gl1;replace w2e:(List.replicate (Int.toNat a0) [V.int .i64 0]).flatten=List.map enc l1:=w2e;obtain⟨x3,gx3,hF⟩:=bS hF;obtain⟨w4a,w4b⟩:=qm gx3;have w4c:=qM gx3;replace w4c:a1 < (((Int.toNat a0):Nat):Int):=by first|exact w4c|(simp only[w2d]at w4c ⊢; exact w4c)
 have w4d:List.drop (Int.toNat a1) (l1.map enc)=(V.int .i64 x3)::List.drop ((Int.toNat a1)+1) (l1.map enc):=jp w4b;obtain⟨l5,gl5,hF⟩:=bS hF;obtain⟨w6a,w6b,w6c,w6d,w6e⟩:=setI_w gl5;replace w6e:List.take (Int.toNat a1) (l1.map enc)++[V.int .i64 1]++List.drop (Int.toNat a1+1) (l1.map enc)=List.map enc l5:=w6e;have hE:=wB hF; subst hE;simp only[simprocAttr, -Int.reduceNatCast',R0,b132,hl_0,h0_0,h1_0,w2a,w2b,w2c,w2e,w4a,w4b,w4c,w4d,w6a,w6b,w6c,w6e];exact qc (by simp only[simprocAttr, -Int.reduceNatCast',R0,qd,p132,Rs.ev,qa,hl_0,h0_0,h1_0,w2a,w2b,w2c,w2e,w4a,w4b,w4c,w4d,w6a,w6b,w6c,w6e,frzs (α:=Int) l5,qG (α:=Int) l5,qF (α:=Int) (l:=l5) (n:=(Int.toNat a0)) (by first|rfl|simp only[w2d,w6d]),w2d,w6d])
theorem t132(a0:Int)(a1:Int){r:List Int}(hF:F132 a0 a1=some r):tans A 132 [1] [V.int .i64 a0,V.int .i64 a1]=some (enc r):=by
 refine tans_of (f:=p132) rfl rfl rfl fun e hl he=>?_;have h0_0:e.at 0=V.int .i64 a0:=he 0 _ rfl;have h1_0:e.at 1=V.int .i64 a1:=he 1 _ rfl;have hl_0:e.length=12:=hl;clear he hl;show W A b132 e ⟨[],0⟩ _;unfold F132 at hF;obtain⟨l1,gl1,hF⟩:=bS hF;obtain⟨w2a,w2b,w2c,w2d,w2e⟩:=mkL_w gl1;replace w2e:(List.replicate (Int.toNat a0) [V.int .i64 0]).flatten=List.map enc l1:=w2e;obtain⟨x3,gx3,hF⟩:=bS hF;obtain⟨w4a,w4b⟩:=qm gx3;have w4c:=qM gx3;replace w4c:a1 < (((Int.toNat a0):Nat):Int):=by first|exact w4c|(simp only[w2d]at w4c ⊢; exact w4c)
 have w4d:List.drop (Int.toNat a1) (l1.map enc)=(V.int .i64 x3)::List.drop ((Int.toNat a1)+1) (l1.map enc):=jp w4b;obtain⟨l5,gl5,hF⟩:=bS hF;obtain⟨w6a,w6b,w6c,w6d,w6e⟩:=setI_w gl5;replace w6e:List.take (Int.toNat a1) (l1.map enc)++[V.int .i64 1]++List.drop (Int.toNat a1+1) (l1.map enc)=List.map enc l5:=w6e;have hE:=wB hF; subst hE;simp only[simprocAttr, -Int.reduceNatCast',R0,b132,hl_0,h0_0,h1_0,w2a,w2b,w2c,w2e,w4a,w4b,w4c,w4d,w6a,w6b,w6c,w6e];exact jl (by simp only[simprocAttr, -Int.reduceNatCast',R0,qd,p132,Rs.ev,qa,hl_0,h0_0,h1_0,w2a,w2b,w2c,w2e,w4a,w4b,w4c,w4d,w6a,w6b,w6c,w6e,frzs (α:=Int) l5,qG (α:=Int) l5,qF (α:=Int) (l:=l5) (n:=(Int.toNat a0)) (by first|rfl|simp only[w2d,w6d]),w2d,w6d])
def F124_1_B(a0:Int)(v7_1:Int)(o0_1:(List (List Int))):Option (((List (List Int)))⊕((List (List Int)))):=
 (F132 a0 v7_1).bind fun x5=>
(app 24 o0_1 [x5]).bind fun l8=>
some (.inl l8)
def F124_1_D(a0:Int)(v7_1:Int)(o0_1:(List (List Int))):Option ((List (List Int))):=
 some o0_1
def F124(a0:Int):Option (List (List Int)):=
 (forR 0 a0 (F124_1_B a0) (F124_1_D a0) ([]:(List (List Int)))).bind fun zo0_1=>
 some zo0_1
theorem d124(a0:Int){r:List (List Int)}(hF:F124 a0=some r):∃v h',res A 124 [V.int .i64 a0] Heap.empty=some (v,h')∧∃K,Deep.rep h' v r K:=by
 refine je (f:=p124) rfl rfl rfl fun e hl he=>?_;have h0_0:e.at 0=V.int .i64 a0:=he 0 _ rfl;have hl_0:e.length=18:=hl;clear he hl;show W A b124 e ⟨[],0⟩ _;unfold F124 at hF;obtain⟨zo0_1,gt9,hF⟩:=bS hF;have hE:=wB hF; subst hE;simp only[simprocAttr, -Int.reduceNatCast',R1,b124, *];show W A (.block 0 (.loop true b124_1)) _ _ _;rw[ql];refine qq gt9 _ rfl (fun i l e h=>∃u vs K,h.ents[0]? =some (u,some vs)∧reps h vs l K∧¬K 0∧e.length=18∧e.at 0=V.int .i64 a0∧e.at 3=V.sl 0 u 0 l.length 1∧e.at 6=V.int .i64 a0∧e.at 7=V.int .i64 i) ?_ ?_ ?_
 ·refine⟨0,[],fun _=> False,rfl,fun _ x=> x,fun x=> x,?_⟩
  simp only[simprocAttr, -Int.reduceNatCast',R1, *]
 ·rintro i l e ⟨E,c⟩ ⟨u,vs,K,g1,g2,g3,hl_1,h0_1,h3_1,h6_1,h7_1⟩ hlt hw o ho
  unfold F124_1_B at ho;obtain⟨x7,gx7,ho⟩:=bS ho;have w8:=t132 a0 i gx7;obtain⟨l10,gl10,ho⟩:=bS ho;obtain⟨q1,q2,rfl⟩:=app_w gl10;have hE:=wB ho; subst hE;have hln:=g2.len;have hE0:0 < E.length:=(List.getElem?_eq_some_iff.1 g1).1;have w9:∀x y c',qO 1 24 (.sl 0 u 0 l.length 1) 1 [V.sl E.length c 0 x7.length 1] ⟨E++[x]++[y],c'⟩=_:=fun x y c'=> qV (E:=E++[x]++[y]) (vs:=vs) (by rw[List.getElem?_append_left (by simp),List.getElem?_append_left hE0]; exact g1) hln (by simpa using q1) (by simpa using q2);simp only[simprocAttr, -Int.reduceNatCast',R1,b124_1,qK,qY,qy, *];have r1:=js (h:=⟨E,c⟩) (h1:=⟨E++[(c,some (x7.map enc))],c+1⟩) (h2:=⟨(E++[(c,some (x7.map enc))]++[(c+1,some [V.sl E.length c 0 x7.length 1])]).set 0 (c+1+1,some (vs++[V.sl E.length c 0 x7.length 1])),c+1+1+1⟩) g2
   (zh (l:=x7) (K:=fun k=> k=E.length) (qy _ _) fun k=> vU) (fun k q=> by show E.length≤k; omega) (fun k q=> List.getElem?_append_left q) (fun k p q=> qI (fun e=> by subst e; exact q.elim g3 (fun q=> by omega)) p) (by simp)
  refine ai rfl ⟨_,_,_,qt (by simp),r1,fun q=> q.elim g3 (fun q=> by omega),?_⟩;simp only[simprocAttr, -Int.reduceNatCast',R1,wH, *]
 ·rintro i l e ⟨E,c⟩ ⟨u,vs,K,g1,g2,g3,hl_1,h0_1,h3_1,h6_1,h7_1⟩ hge t1 ho
  unfold F124_1_D at ho;have hE:=wB ho; subst hE;simp only[simprocAttr, -Int.reduceNatCast',R1,b124_1, *];intro ht; subst ht;refine ai (fun _=> trivial) ⟨_,by simp only[simprocAttr, -Int.reduceNatCast',R1,qd,p124,Rs.ev, *],fun k=> k=0∨K k,.inr ⟨0,u,vs,K,rfl,g1,g2,g3,fun k=> vU⟩⟩
theorem s124(a0:Int){r:List (List Int)}(hF:F124 a0=some r):ans A 124 [V.int .i64 a0]=some (enc r):=jy (by decide) (d124 a0 hF)
theorem x124(a0:Int){r:List (List Int)}(hF:F124 a0=some r):tans A 124 [1,1] [V.int .i64 a0]=some (enc r):=zo (α:=List (List Int)) (by decide) (d124 a0 hF)
def F100(a0:qh)(a1:Int):Option (List (List Int)):=
 if a1≤0 then
  (F102 a0 a1).bind fun x2=>
  (F124 x2).bind fun x4=>
  some x4
 else
  (F86 a0).bind fun x6=>
  if x6 < a1 then
   (F102 a0 a1).bind fun x9=>
   (F124 x9).bind fun x11=>
   some x11
  else
   (chk (a1 - 1)).bind fun x13=>
   (getI a0.Maps x13).bind fun x14=>
   (F125 a0.Prime x14).bind fun x16=>
   some x16
theorem s100(a0:qh)(a1:Int){r:List (List Int)}(hF:F100 a0 a1=some r):ans A 100 [(eC a0),V.int .i64 a1]=some (enc r):=by
 refine qp (f:=p100) rfl rfl rfl fun e hl he=>?_;have h0_0:e.at 0=(eC a0):=he 0 _ rfl;have h1_0:e.at 1=V.int .i64 a1:=he 1 _ rfl;have hl_0:e.length=26:=hl;clear he hl;have h_0:=ai hl_0 (ai h0_0 h1_0);show W A b100 e ⟨[],0⟩ _;unfold F100 at hF;by_cases c1:a1≤0
 ·rw[if_pos c1]at hF
  obtain⟨x2,gx2,hF⟩:=bS hF;have w3:=s102 a0 a1 gx2;obtain⟨x4,gx4,hF⟩:=bS hF;have w5:=s124 x2 gx4;cases hF;simp only[simprocAttr,R0,b100, *];exact qc (by simp only[simprocAttr,R0,qd,p100,Rs.ev,qa, *])
 ·rw[if_neg c1]at hF
  obtain⟨x6,gx6,hF⟩:=bS hF;have w7:=s86 a0 gx6;by_cases c8:x6 < a1
  ·rw[if_pos c8]at hF
   obtain⟨x9,gx9,hF⟩:=bS hF;have w10:=s102 a0 a1 gx9;obtain⟨x11,gx11,hF⟩:=bS hF;have w12:=s124 x9 gx11;cases hF;simp only[simprocAttr,R0,b100, *];exact qc (by simp only[simprocAttr,R0,qd,p100,Rs.ev,qa, *])
  ·rw[if_neg c8]at hF
   obtain⟨x13,gx13,hF⟩:=bS hF;have wx13:=qx gx13;obtain⟨x14,gx14,hF⟩:=bS hF;obtain⟨w15a,w15b⟩:=qm gx14;obtain⟨x16,gx16,hF⟩:=bS hF;have w17:=s125 a0.Prime x14 gx16;cases hF;simp only[simprocAttr,R0,b100, *];exact qc (by simp only[simprocAttr,R0,qd,p100,Rs.ev,qa, *])
def F168(a0:qh)(a1:Int):Option Int:=
 (F100 a0 a1).bind fun x1=>
 (F186 a0 a1).bind fun x5=>
 (chk ((x1.length:Int) - (x5.length:Int))).bind fun x9=>
 some x9
theorem s168(a0:qh)(a1:Int){r:Int}(hF:F168 a0 a1=some r):ans A 168 [(eC a0),V.int .i64 a1]=some (enc r):=by
 refine qp (f:=p168) rfl rfl rfl fun e hl he=>?_;have h0_0:e.at 0=(eC a0):=he 0 _ rfl;have h1_0:e.at 1=V.int .i64 a1:=he 1 _ rfl;have hl_0:e.length=14:=hl;clear he hl;show W A b168 e ⟨[],0⟩ _;unfold F168 at hF;obtain⟨x1,gx1,hF⟩:=bS hF;have w2:=s100 a0 a1 gx1;have w4:=s89 x1 rfl;obtain⟨x5,gx5,hF⟩:=bS hF;have w6:=s186 a0 a1 gx5;have w8:=s89 x5 rfl;obtain⟨x9,gx9,hF⟩:=bS hF;have wx9:=qx gx9;cases hF;simp only[simprocAttr,R0,b168, *];exact qc (by simp only[simprocAttr,R0,qd,p168,Rs.ev,qa, *])
def F149_1_B(a0:qh)(v13_1:Int)(o1_1:(List Int)):Option (((List Int))⊕((List Int))):=
 (F168 a0 v13_1).bind fun x9=>
(app 8 o1_1 [x9]).bind fun l12=>
some (.inl l12)
def F149_1_D(a0:qh)(v13_1:Int)(o1_1:(List Int)):Option ((List Int)):=
 some o1_1
def F149(a0:qh):Option (T2 (List Int) Int):=
 (F42 a0).bind fun x1=>
 if x1=true then
  (forR 0 (a0.Dims.length:Int) (F149_1_B a0) (F149_1_D a0) ([]:(List Int))).bind fun zo1_1=>
  some ⟨zo1_1,0⟩
 else
  some ⟨([]:List Int),1⟩
def I149_1(a0:qh)(v13_1:Int)(o1_1:(List Int))(e:Env)(h:Heap):Prop:=
 ∃u6 k7:Nat,h=⟨[(0,none),(u6,some (o1_1.map enc))],k7⟩∧e.length=24∧e.at 1=V.iptr [V.int .i64 a0.Prime,V.isl (a0.Dims.map enc),V.isl (a0.Maps.map enc)]∧e.at 4=V.sl 1 u6 0 o1_1.length 1∧e.at 12=V.int .i64 (a0.Dims.length:Int)∧e.at 13=V.int .i64 v13_1
def P149_1(a0:qh)(zo1_1:(List Int))(x:Ex)(e:Env)(h:Heap):Prop:=
 x= .normal∧∃u6 k7:Nat,h=⟨[(0,none),(u6,some (zo1_1.map enc))],k7⟩∧e.length=24∧e.at 4=V.sl 1 u6 0 zo1_1.length 1
theorem l149_1(a0:qh){lo:Int}{s:(List Int)}{t:(List Int)}(hF:forR lo (a0.Dims.length:Int) (F149_1_B a0) (F149_1_D a0) s=some t){e:Env}{h:Heap}(hI:I149_1 a0 lo s e h):W A c149_1 e h (P149_1 a0 t):=by
 show W A (.block 0 (.loop false b149_1)) e h _;rw[ql];refine qq hF 2 (by obtain⟨_,_,rfl,_⟩:=hI; rfl) (I149_1 a0) hI ?_ ?_
 ·rintro v13_1 o1_1 e h ⟨u6,k7,rfl,h_5⟩ hlt hw o ho
  unfold F149_1_B at ho;obtain⟨x9,gx9,ho⟩:=bS ho;have w10:=s168 a0 v13_1 gx9;obtain⟨l12,gl12,ho⟩:=bS ho;have w11:=fun a b c d e=> qE (α:=Int) (n:=o1_1.length) (m:=1) (ds:=[V.int .i64 x9]) gl12 (by first|rfl|simp) (by first|rfl|simp) rfl a b c d e;have w11l:=qQ gl12;cases ho;simp only[simprocAttr,R0,b149_1, *];refine ai rfl (ei _ (ei _ (ai rfl ?_)));simp only[simprocAttr,R0, *]
 ·rintro v13_1 o1_1 e h ⟨u6,k7,rfl,h_5⟩ hge t1 ho
  unfold F149_1_D at ho;cases ho;simp only[simprocAttr,R0,b149_1, *];intro ht; subst ht;refine ai rfl (ei _ (ei _ (ai rfl ?_)));simp only[simprocAttr,R0, *]
theorem s149(a0:qh){r:T2 (List Int) Int}(hF:F149 a0=some r):ans A 149 [(eC a0)]=some (EncR.enc r):=by
 refine qp (f:=p149) rfl rfl rfl fun e hl he=>?_;have h0_0:e.at 0=(eC a0):=he 0 _ rfl;have hl_0:e.length=24:=hl;clear he hl;have h_0:=ai hl_0 h0_0;show W A b149 e ⟨[],0⟩ _;unfold F149 at hF;obtain⟨x1,gx1,hF⟩:=bS hF;have w2:=s42 a0 gx1;cases x1 with
 |true=>
  rw[if_pos rfl]at hF;have w4:=s73 a0.Dims rfl;obtain⟨zo1_1,gt13,hF⟩:=bS hF;simp only[simprocAttr,R0,b149, *];refine W.mono (l149_1 a0 gt13 (ei _ (ei _ (ai rfl ?_)))) ?_
  ·simp only[simprocAttr,R0, *]
  rintro _ e _ ⟨rfl,u6,k7,rfl,h_8⟩;cases hF;simp only[simprocAttr,R0, *];exact qc (by simp only[simprocAttr,R0,qd,p149,Rs.ev,qa,frzs (α:=Int) zo1_1,qG (α:=Int) zo1_1, *])
 |false=>
  rw[if_neg wE]at hF;cases hF;simp only[simprocAttr,R0,b149, *];exact qc (by simp only[simprocAttr,R0,qd,p149,Rs.ev,qa, *])
def F150_1_B(a0:List Int)(v4_1:Int)(v3_1:Int):Option ((Int)⊕(Int)):=
 (getI a0 v4_1).bind fun x4=>
(chk (v3_1+x4)).bind fun x6=>
some (.inl x6)
def F150_1_D(a0:List Int)(v4_1:Int)(v3_1:Int):Option (Int):=
 some v3_1
def F150(a0:List Int):Option Int:=
 (forR 0 (a0.length:Int) (F150_1_B a0) (F150_1_D a0) 0).bind fun zv3_1=>
 some zv3_1
def I150_1(a0:List Int)(v4_1:Int)(v3_1:Int)(e:Env)(h:Heap):Prop:=
 ∃k2:Nat,h=⟨[],k2⟩∧e.length=18∧e.at 0=V.isl (a0.map enc)∧e.at 3=V.int .i64 v3_1∧e.at 4=V.int .i64 v4_1
def P150_1(a0:List Int)(zv3_1:Int)(x:Ex)(e:Env)(h:Heap):Prop:=
 x= .normal∧∃k2:Nat,h=⟨[],k2⟩∧e.length=18∧e.at 3=V.int .i64 zv3_1
theorem l150_1(a0:List Int){lo:Int}{s:Int}{t:Int}(hF:forR lo (a0.length:Int) (F150_1_B a0) (F150_1_D a0) s=some t){e:Env}{h:Heap}(hI:I150_1 a0 lo s e h):W A c150_1 e h (P150_1 a0 t):=by
 show W A (.block 0 (.loop false b150_1)) e h _;rw[ql];refine qq hF 0 (by obtain⟨_,rfl,_⟩:=hI; rfl) (I150_1 a0) hI ?_ ?_
 ·rintro v4_1 v3_1 e h ⟨k2,rfl,h_1⟩ hlt hw o ho
  unfold F150_1_B at ho;obtain⟨x4,gx4,ho⟩:=bS ho;obtain⟨w5a,w5b⟩:=qm gx4;obtain⟨x6,gx6,ho⟩:=bS ho;have wx6:=qx gx6;cases ho;simp only[simprocAttr,R0,b150_1, *];refine ai rfl (ei _ (ai rfl ?_));simp only[simprocAttr,R0, *]
 ·rintro v4_1 v3_1 e h ⟨k2,rfl,h_1⟩ hge t1 ho
  unfold F150_1_D at ho;cases ho;simp only[simprocAttr,R0,b150_1, *];intro ht; subst ht;refine ai rfl (ei _ (ai rfl ?_));simp only[simprocAttr,R0, *]
theorem s150(a0:List Int){r:Int}(hF:F150 a0=some r):ans A 150 [V.isl (a0.map enc)]=some (enc r):=by
 refine qp (f:=p150) rfl rfl rfl fun e hl he=>?_;have h0_0:e.at 0=V.isl (a0.map enc):=he 0 _ rfl;have hl_0:e.length=18:=hl;clear he hl;show W A b150 e ⟨[],0⟩ _;unfold F150 at hF;obtain⟨zv3_1,gt7,hF⟩:=bS hF;simp only[simprocAttr,R0,b150, *];refine W.mono (l150_1 a0 gt7 (ei _ (ai rfl ?_))) ?_
 ·simp only[simprocAttr,R0, *]
 rintro _ e _ ⟨rfl,k2,rfl,h_3⟩;cases hF;simp only[simprocAttr,R0, *];exact qc (by simp only[simprocAttr,R0,qd,p150,Rs.ev,qa, *])
def F151(a0:qg)(a1:Int)(a2:Int)(a3:Int):Option (T2 Int Int):=
 (F166 a0 a1 a2 a3).bind fun x1=>
 if x1=0 then
  (F169 a0 a1 a2 a3).bind fun x4=>
  some ⟨x4,0⟩
 else
  some ⟨0,x1⟩
theorem s151(a0:qg)(a1:Int)(a2:Int)(a3:Int){r:T2 Int Int}(hF:F151 a0 a1 a2 a3=some r):ans A 151 [(eF a0),V.int .i64 a1,V.int .i64 a2,V.int .i64 a3]=some (EncR.enc r):=by
 refine qp (f:=p151) rfl rfl rfl fun e hl he=>?_;have h0_0:e.at 0=(eF a0):=he 0 _ rfl;have h1_0:e.at 1=V.int .i64 a1:=he 1 _ rfl;have h2_0:e.at 2=V.int .i64 a2:=he 2 _ rfl;have h3_0:e.at 3=V.int .i64 a3:=he 3 _ rfl;have hl_0:e.length=24:=hl;clear he hl;have h_0:=ai hl_0 (ai h0_0 (ai h1_0 (ai h2_0 h3_0)));show W A b151 e ⟨[],0⟩ _;unfold F151 at hF;obtain⟨x1,gx1,hF⟩:=bS hF;have w2:=s166 a0 a1 a2 a3 gx1;by_cases c3:x1=0
 ·rw[if_pos c3]at hF
  obtain⟨x4,gx4,hF⟩:=bS hF;have w5:=s169 a0 a1 a2 a3 gx4;cases hF;simp only[simprocAttr,R0,b151, *];exact qc (by simp only[simprocAttr,R0,qd,p151,Rs.ev,qa, *])
 ·rw[if_neg c3]at hF
  cases hF;simp only[simprocAttr,R0,b151, *];exact qc (by simp only[simprocAttr,R0,qd,p151,Rs.ev,qa, *])
def F123(a0:Int):Option Bool:=
 some (!(decide (a0=0)))
theorem s123(a0:Int){r:Bool}(hF:F123 a0=some r):ans A 123 [V.int .i64 a0]=some (enc r):=by
 refine qp (f:=p123) rfl rfl rfl fun e hl he=>?_;have h0_0:e.at 0=V.int .i64 a0:=he 0 _ rfl;have hl_0:e.length=5:=hl;clear he hl;show W A b123 e ⟨[],0⟩ _;unfold F123 at hF;cases hF;simp only[simprocAttr,R0,b123, *];exact qc (by simp only[simprocAttr,R0,qd,p123,Rs.ev,qa, *])
def F101_1_B(a0:List (List Int))(v9_1:Int)(o0_1:(List Int)):Option (((List Int))⊕((List Int))):=
 (getI a0 v9_1).bind fun x5=>
(F115 x5 (fun x=> F123 x)).bind fun x7=>
(app 8 o0_1 [x7]).bind fun l10=>
some (.inl l10)
def F101_1_D(a0:List (List Int))(v9_1:Int)(o0_1:(List Int)):Option ((List Int)):=
 some o0_1
def F101(a0:List (List Int)):Option (List Int):=
 (forR 0 (a0.length:Int) (F101_1_B a0) (F101_1_D a0) ([]:(List Int))).bind fun zo0_1=>
 some zo0_1
def I101_1(a0:List (List Int))(v9_1:Int)(o0_1:(List Int))(e:Env)(h:Heap):Prop:=
 ∃u2 k3:Nat,h=⟨[(u2,some (o0_1.map enc))],k3⟩∧e.length=20∧e.at 3=V.sl 0 u2 0 o0_1.length 1∧e.at 7=V.isl (a0.map enc)∧e.at 8=V.int .i64 (a0.length:Int)∧e.at 9=V.int .i64 v9_1
def P101_1(a0:List (List Int))(zo0_1:(List Int))(x:Ex)(e:Env)(h:Heap):Prop:=
 x= .normal∧∃u2 k3:Nat,h=⟨[(u2,some (zo0_1.map enc))],k3⟩∧e.length=20∧e.at 3=V.sl 0 u2 0 zo0_1.length 1
theorem l101_1(a0:List (List Int)){lo:Int}{s:(List Int)}{t:(List Int)}(hF:forR lo (a0.length:Int) (F101_1_B a0) (F101_1_D a0) s=some t){e:Env}{h:Heap}(hI:I101_1 a0 lo s e h):W A c101_1 e h (P101_1 a0 t):=by
 show W A (.block 0 (.loop false b101_1)) e h _;rw[ql];refine qq hF 1 (by obtain⟨_,_,rfl,_⟩:=hI; rfl) (I101_1 a0) hI ?_ ?_
 ·rintro v9_1 o0_1 e h ⟨u2,k3,rfl,h_1⟩ hlt hw o ho
  unfold F101_1_B at ho;obtain⟨x5,gx5,ho⟩:=bS ho;obtain⟨w6a,w6b⟩:=qm gx5;obtain⟨x7,gx7,ho⟩:=bS ho;have w8:ans A 115 [V.isl (x5.map enc),V.fn 123 [] []]=some (V.int .i64 x7):=s115 x5 (fun x=> F123 x) (Clo1.of (by intro h f; simp only[RZ,mapO]) (by intro h f; simp only[RZ,mapO]) (by intro f; simp only[RZ,RB]) (by intro f; simp only[RZ,RB]) (fun x _ hr=> s123 x hr)) gx7;obtain⟨l10,gl10,ho⟩:=bS ho;have w9:=fun a b c d e=> qE (α:=Int) (n:=o0_1.length) (m:=1) (ds:=[V.int .i64 x7]) gl10 (by first|rfl|simp) (by first|rfl|simp) rfl a b c d e;have w9l:=qQ gl10;cases ho;simp only[simprocAttr,R0,b101_1, *];refine ai rfl (ei _ (ei _ (ai rfl ?_)));simp only[simprocAttr,R0, *]
 ·rintro v9_1 o0_1 e h ⟨u2,k3,rfl,h_1⟩ hge t1 ho
  unfold F101_1_D at ho;cases ho;simp only[simprocAttr,R0,b101_1, *];intro ht; subst ht;refine ai rfl (ei _ (ei _ (ai rfl ?_)));simp only[simprocAttr,R0, *]
theorem s101(a0:List (List Int)){r:List Int}(hF:F101 a0=some r):ans A 101 [V.isl (a0.map enc)]=some (enc r):=by
 refine qp (f:=p101) rfl rfl rfl fun e hl he=>?_;have h0_0:e.at 0=V.isl (a0.map enc):=he 0 _ rfl;have hl_0:e.length=20:=hl;clear he hl;show W A b101 e ⟨[],0⟩ _;unfold F101 at hF;obtain⟨zo0_1,gt11,hF⟩:=bS hF;simp only[simprocAttr, -Int.reduceNatCast',R0,b101, *];refine W.mono (l101_1 a0 gt11 (ei _ (ei _ (ai rfl ?_)))) ?_
 ·simp only[simprocAttr, -Int.reduceNatCast',R0, *]
 rintro _ e _ ⟨rfl,u2,k3,rfl,hl_4,h3_4⟩;have hE:=wB hF; subst hE;simp only[simprocAttr, -Int.reduceNatCast',R0, *];exact qc (by simp only[simprocAttr, -Int.reduceNatCast',R0,qd,p101,Rs.ev,qa,frzs (α:=Int) zo0_1,qG (α:=Int) zo0_1, *])
def F205_1_B(p:Int)(rows:List (List Int))(ls:List Int)(i:Int)(out:List Int):Option (List Int⊕List Int):=(getI ls i).bind fun a=>(getI rows i).bind fun r=>(getI out a).bind fun x=>(F139 out r p x).bind fun o=> some (.inl o)
def F205_1_D(i:Int)(out:List Int):Option (List Int):=some out
def F205(p:Int)(v:List Int)(rows:List (List Int)):Option (List Int):=(F96 v).bind fun d=>(F101 rows).bind fun ls=> forR 0 (ls.length:Int) (F205_1_B p rows ls) F205_1_D d
theorem d205(p:Int)(v:List Int)(rows:List (List Int)){r:List Int}(hF:F205 p v rows=some r):∃w h',res A 205 [V.int .i64 p,V.isl (v.map enc),V.isl (rows.map enc)] Heap.empty=some (w,h')∧∃K,Deep.rep h' w r K:=by
 refine je (f:=p205) rfl rfl rfl fun e hl he=>?_;have h0_0:e.at 0=V.int .i64 p:=he 0 _ rfl;have h1_0:e.at 1=V.isl (v.map enc):=he 1 _ rfl;have h2_0:e.at 2=V.isl (rows.map enc):=he 2 _ rfl;have hl_0:e.length=33:=hl;clear he hl;show W A b205 e ⟨[],0⟩ _;unfold F205 at hF;obtain⟨d,gd,hF⟩:=bS hF;have wd:=t96 v gd;obtain⟨ls,gls,hF⟩:=bS hF;have wls:ans A 101 [V.isl (rows.map enc)]=some (V.isl (ls.map enc)):=s101 rows gls;simp only[simprocAttr,R1,b205,qK,qY, *];show W A (.block 0 (.loop true b205_1)) _ _ _;rw[ql];refine qq hF _ rfl (fun i q e h=>∃k u,h.ents[k]? =some (u,some (q.map enc))∧e.length=33∧e.at 0=V.int .i64 p∧e.at 2=V.isl (rows.map enc)∧e.at 7=V.sl k u 0 q.length 1∧e.at 13=V.isl (ls.map enc)∧e.at 14=V.int .i64 (ls.length:Int)∧e.at 15=V.int .i64 i) ?_ ?_ ?_
 ·refine⟨0,0,rfl,?_⟩
  simp only[simprocAttr,R1, *]
 ·clear hl_0 h0_0 h1_0 h2_0
  rintro i q e ⟨E,c⟩ ⟨k,u,g1,h_1⟩ hlt hw s' ho;unfold F205_1_B at ho;simp only at g1;obtain⟨a,ga,ho⟩:=bS ho;obtain⟨aa,ab⟩:=qm ga;obtain⟨x,gx,ho⟩:=bS ho;obtain⟨xa,xb⟩:=qm gx;obtain⟨y,gy,ho⟩:=bS ho;obtain⟨ya,yb⟩:=qm gy;have yc:=qM gy;obtain⟨o,go,ho⟩:=bS ho;cases ho;obtain⟨w1,w2⟩:=i139 go E c g1;have oy:qB none (List.drop a.toNat (q.map enc))=some (V.int .i64 y):=qz (by rw[List.getElem?_map,yb]; rfl);simp only[simprocAttr,R1,b205_1,aa,ab,xa,xb,ya,eq_true yc,oy,qn, *];refine ai rfl ⟨k,u,qt (List.getElem?_eq_some_iff.1 g1).1,?_⟩;simp only[simprocAttr,R1, *]
 ·clear hl_0 h0_0 h1_0 h2_0
  rintro i q e ⟨E,c⟩ ⟨k,u,g1,h_1⟩ hge t1 ho;unfold F205_1_D at ho;cases ho;simp only at g1;simp only[simprocAttr,R1,b205_1, *];intro ht; subst ht;refine ai (fun _=> trivial) ⟨_,?_,fun x=> x=k,zh (l:=q) g1 fun x=> vU⟩;simp only[simprocAttr,R1,qd,p205,Rs.ev, *]
theorem t205(p:Int)(v:List Int)(rows:List (List Int)){r:List Int}(hF:F205 p v rows=some r):tans A 205 [1] [V.int .i64 p,V.isl (v.map enc),V.isl (rows.map enc)]=some (enc r):=zo (α:=List Int) (by decide) (d205 p v rows hF)
theorem s205(p:Int)(v:List Int)(rows:List (List Int)){r:List Int}(hF:F205 p v rows=some r):ans A 205 [V.int .i64 p,V.isl (v.map enc),V.isl (rows.map enc)]=some (enc r):=jy (α:=List Int) (by decide) (d205 p v rows hF)
def F204_1_B(a0:Int)(a1:List (List Int))(a2:List (List Int))(v13_1:Int)(o0_1:(List (List Int))):Option (((List (List Int)))⊕((List (List Int)))):=
 (getI a1 v13_1).bind fun x5=>
(F205 a0 x5 a2).bind fun x7=>
(app 24 o0_1 [x7]).bind fun l10=>
some (.inl l10)
def F204_1_D(a0:Int)(a1:List (List Int))(a2:List (List Int))(v13_1:Int)(o0_1:(List (List Int))):Option ((List (List Int))):=
 some o0_1
def F204(a0:Int)(a1:List (List Int))(a2:List (List Int)):Option (List (List Int)):=
 (forR 0 (a1.length:Int) (F204_1_B a0 a1 a2) (F204_1_D a0 a1 a2) ([]:(List (List Int)))).bind fun zo0_1=>
 (F133 a0 zo0_1).bind fun x12=>
 some x12
theorem d204(a0:Int)(a1:List (List Int))(a2:List (List Int)){r:List (List Int)}(hF:F204 a0 a1 a2=some r):∃v h',res A 204 [V.int .i64 a0,V.isl (a1.map enc),V.isl (a2.map enc)] Heap.empty=some (v,h')∧∃K,Deep.rep h' v r K:=by
 refine je (f:=p204) rfl rfl rfl fun e hl he=>?_;have h0_0:e.at 0=V.int .i64 a0:=he 0 _ rfl;have h1_0:e.at 1=V.isl (a1.map enc):=he 1 _ rfl;have h2_0:e.at 2=V.isl (a2.map enc):=he 2 _ rfl;have hl_0:e.length=28:=hl;clear he hl;show W A b204 e ⟨[],0⟩ _;unfold F204 at hF;obtain⟨l,gl,hF⟩:=bS hF;obtain⟨x12,gx12,hF⟩:=bS hF;have hE:=wB hF; subst hE;have w13:tans A 133 [1,1] [V.int .i64 a0,V.isl (l.map enc)]=some (V.isl (x12.map enc)):=x133 a0 l gx12;simp only[simprocAttr, -Int.reduceNatCast',R0,b204, *];show W A (.block 0 (.loop false b204_1)) _ _ _;rw[ql];refine qq gl 1 rfl (fun i s e h=>∃u k:Nat,h=⟨[(u,some (s.map enc))],k⟩∧e.length=28∧e.at 0=V.int .i64 a0∧e.at 2=V.isl (a2.map enc)∧e.at 7=V.sl 0 u 0 s.length 1∧e.at 11=V.isl (a1.map enc)∧e.at 12=V.int .i64 (a1.length:Int)∧e.at 13=V.int .i64 i) ?_ ?_ ?_
 ·refine⟨_,_,rfl,?_⟩
  simp only[simprocAttr, -Int.reduceNatCast',R0, *]
 ·clear hl_0 h0_0 h1_0 h2_0
  rintro i s e h ⟨u,k,rfl,hl_1,h0_1,h2_1,h7_1,h11_1,h12_1,h13_1⟩ hlt hw o ho;unfold F204_1_B at ho;obtain⟨x5,gx5,ho⟩:=bS ho;obtain⟨w6a,w6b⟩:=qm gx5;obtain⟨x7,gx7,ho⟩:=bS ho;have w8:=s205 a0 x5 a2 gx7;obtain⟨l10,gl10,ho⟩:=bS ho;have w9:=fun ents key uid clk he=> qE (α:=List Int) (n:=s.length) (m:=1) (ds:=[V.isl (x7.map enc)]) gl10 (by first|rfl|simp only[wJ]) (by first|rfl|simp only[wJ]) rfl ents key uid clk he;have w9l:=qQ gl10;have hE:=wB ho; subst hE;simp only[simprocAttr, -Int.reduceNatCast',R0,b204_1, *];refine ai rfl (ei _ (ei _ (ai rfl ?_)));simp only[simprocAttr, -Int.reduceNatCast',R0, *]
 ·clear hl_0 h0_0 h1_0 h2_0
  rintro i s e h ⟨u,k,rfl,hl_1,h0_1,h2_1,h7_1,h11_1,h12_1,h13_1⟩ hge t1 ho;unfold F204_1_D at ho;have hE:=wB ho; subst hE;simp only[simprocAttr, -Int.reduceNatCast',R0,b204_1, *];intro ht; subst ht;obtain⟨v,⟨E1,c1⟩,K,t1,t2,t3,t4,t5⟩:=thawD (α:=List (List Int)) (by decide) x12 ⟨[(u,some (s.map enc))],k⟩;have t1':thaw 16 [1,1] (V.isl (x12.map enc)) ⟨[(u,some (s.map enc))],k⟩=some (v,⟨E1,c1⟩):=t1;have wbr:bare 16 [1,1] (V.isl (x12.map enc))=true:=Deep.br (α:=List (List Int)) x12 10 [];simp only[simprocAttr, -Int.reduceNatCast',R0,frzs (α:=List Int) s,qG (α:=List Int) s,qK,t1', *];refine ai (fun _=> trivial) ⟨v,?_,K,t2⟩;simp only[simprocAttr, -Int.reduceNatCast',R0,qd,p204,Rs.ev, *]
theorem x204(a0:Int)(a1:List (List Int))(a2:List (List Int)){r:List (List Int)}(hF:F204 a0 a1 a2=some r):tans A 204 [1,1] [V.int .i64 a0,V.isl (a1.map enc),V.isl (a2.map enc)]=some (enc r):=zo (α:=List (List Int)) (by decide) (d204 a0 a1 a2 hF)
def F187(a0:qg)(a1:Int)(a2:Int)(a3:Int):Option (List (List Int)):=
 (F184 a0 a1 a2 a3).bind fun x1=>
 (F185 a0 a1 a2 a3).bind fun x3=>
 (F204 a0.Complex.Prime x1 x3).bind fun x5=>
 some x5
theorem d187(a0:qg)(a1 a2 a3:Int){r:List (List Int)}(hF:F187 a0 a1 a2 a3=some r):∃v h',res A 187 [(eF a0),V.int .i64 a1,V.int .i64 a2,V.int .i64 a3] Heap.empty=some (v,h')∧∃K,Deep.rep h' v r K:=by
 refine je (f:=p187) rfl rfl rfl fun e hl he=>?_;have h0_0:e.at 0=(eF a0):=he 0 _ rfl;have h1_0:e.at 1=V.int .i64 a1:=he 1 _ rfl;have h2_0:e.at 2=V.int .i64 a2:=he 2 _ rfl;have h3_0:e.at 3=V.int .i64 a3:=he 3 _ rfl;have hl_0:e.length=23:=hl;clear he hl;show W A b187 e ⟨[],0⟩ _;unfold F187 at hF;obtain⟨x1,gx1,hF⟩:=bS hF;have w2:=s184 a0 a1 a2 a3 gx1;obtain⟨x3,gx3,hF⟩:=bS hF;have w4:=s185 a0 a1 a2 a3 gx3;obtain⟨x5,gx5,hF⟩:=bS hF;have w6:tans A 204 [1,1] [V.int .i64 a0.Complex.Prime,V.isl (x1.map enc),V.isl (x3.map enc)]=some (V.isl (x5.map enc)):=x204 a0.Complex.Prime x1 x3 gx5;have hE:=wB hF; subst hE;obtain⟨v,⟨E1,c1⟩,K,t1,t2,t3,t4,t5⟩:=thawD (α:=List (List Int)) (by decide) x5 ⟨[(0,none)],1⟩;have t1':thaw 16 [1,1] (V.isl (x5.map enc)) ⟨[(0,none)],1⟩=some (v,⟨E1,c1⟩):=t1;simp only[simprocAttr, -Int.reduceNatCast',R0,b187,qK,t1', *];refine ai (fun _=> trivial) ⟨v,?_,K,t2⟩;simp only[simprocAttr, -Int.reduceNatCast',R0,qd,p187,Rs.ev, *]
theorem s187(a0:qg)(a1 a2 a3:Int){r:List (List Int)}(hF:F187 a0 a1 a2 a3=some r):ans A 187 [(eF a0),V.int .i64 a1,V.int .i64 a2,V.int .i64 a3]=some (enc r):=jy (α:=List (List Int)) (by decide) (d187 a0 a1 a2 a3 hF)
def F188_1_B(x1:List Int)(x3:List Int)(v20_1:Int)(o0_1:(List Int)):Option (((List Int))⊕((List Int))):=
 (getI x3 v20_1).bind fun x9=>
(getI x1 x9).bind fun x11=>
(app 8 o0_1 [x11]).bind fun l14=>
some (.inl l14)
def F188_1_D(x1:List Int)(x3:List Int)(v20_1:Int)(o0_1:(List Int)):Option ((List Int)):=
 some o0_1
def F188(a0:Int)(a1:List Int)(a2:List (List Int))(a3:List (List Int)):Option (List Int):=
 (F205 a0 a1 a3).bind fun x1=>
 (F101 a2).bind fun x3=>
 (forR 0 (x3.length:Int) (F188_1_B x1 x3) (F188_1_D x1 x3) ([]:(List Int))).bind fun zo0_1=>
 some zo0_1
def I188_1(x1:List Int)(x3:List Int)(v20_1:Int)(o0_1:(List Int))(e:Env)(h:Heap):Prop:=
 ∃u6 k7:Nat,h=⟨[(u6,some (o0_1.map enc))],k7⟩∧e.length=33∧e.at 1=V.isl (x1.map enc)∧e.at 9=V.sl 0 u6 0 o0_1.length 1∧e.at 18=V.isl (x3.map enc)∧e.at 19=V.int .i64 (x3.length:Int)∧e.at 20=V.int .i64 v20_1
def P188_1(x1:List Int)(x3:List Int)(zo0_1:(List Int))(x:Ex)(e:Env)(h:Heap):Prop:=
 x= .normal∧∃u6 k7:Nat,h=⟨[(u6,some (zo0_1.map enc))],k7⟩∧e.length=33∧e.at 9=V.sl 0 u6 0 zo0_1.length 1
theorem l188_1(x1:List Int)(x3:List Int){lo:Int}{s:(List Int)}{t:(List Int)}(hF:forR lo (x3.length:Int) (F188_1_B x1 x3) (F188_1_D x1 x3) s=some t){e:Env}{h:Heap}(hI:I188_1 x1 x3 lo s e h):W A c188_1 e h (P188_1 x1 x3 t):=by
 show W A (.block 0 (.loop false b188_1)) e h _;rw[ql];refine qq hF 1 (by obtain⟨_,_,rfl,_⟩:=hI; rfl) (I188_1 x1 x3) hI ?_ ?_
 ·rintro v20_1 o0_1 e h ⟨u6,k7,rfl,h_5⟩ hlt hw o ho
  unfold F188_1_B at ho;obtain⟨x9,gx9,ho⟩:=bS ho;obtain⟨w10a,w10b⟩:=qm gx9;obtain⟨x11,gx11,ho⟩:=bS ho;obtain⟨w12a,w12b⟩:=qm gx11;obtain⟨l14,gl14,ho⟩:=bS ho;have w13:=fun a b c d e=> qE (α:=Int) (n:=o0_1.length) (m:=1) (ds:=[V.int .i64 x11]) gl14 (by first|rfl|simp) (by first|rfl|simp) rfl a b c d e;have w13l:=qQ gl14;cases ho;simp only[simprocAttr,R0,b188_1, *];refine ai rfl (ei _ (ei _ (ai rfl ?_)));simp only[simprocAttr,R0, *]
 ·rintro v20_1 o0_1 e h ⟨u6,k7,rfl,h_5⟩ hge t1 ho
  unfold F188_1_D at ho;cases ho;simp only[simprocAttr,R0,b188_1, *];intro ht; subst ht;refine ai rfl (ei _ (ei _ (ai rfl ?_)));simp only[simprocAttr,R0, *]
theorem s188(a0:Int)(a1:List Int)(a2:List (List Int))(a3:List (List Int)){r:List Int}(hF:F188 a0 a1 a2 a3=some r):ans A 188 [V.int .i64 a0,V.isl (a1.map enc),V.isl (a2.map enc),V.isl (a3.map enc)]=some (enc r):=by
 refine qp (f:=p188) rfl rfl rfl fun e hl he=>?_;have h0_0:e.at 0=V.int .i64 a0:=he 0 _ rfl;have h1_0:e.at 1=V.isl (a1.map enc):=he 1 _ rfl;have h2_0:e.at 2=V.isl (a2.map enc):=he 2 _ rfl;have h3_0:e.at 3=V.isl (a3.map enc):=he 3 _ rfl;have hl_0:e.length=33:=hl;clear he hl;show W A b188 e ⟨[],0⟩ _;unfold F188 at hF;obtain⟨x1,gx1,hF⟩:=bS hF;have w2:=s205 a0 a1 a3 gx1;obtain⟨x3,gx3,hF⟩:=bS hF;have w4:=s101 a2 gx3;obtain⟨zo0_1,gt15,hF⟩:=bS hF;simp only[simprocAttr, -Int.reduceNatCast',R0,b188, *];refine W.mono (l188_1 x1 x3 gt15 (ei _ (ei _ (ai rfl ?_)))) ?_
 ·simp only[simprocAttr, -Int.reduceNatCast',R0, *]
 rintro _ e _ ⟨rfl,u6,k7,rfl,hl_8,h9_8⟩;have hE:=wB hF; subst hE;simp only[simprocAttr, -Int.reduceNatCast',R0, *];exact qc (by simp only[simprocAttr, -Int.reduceNatCast',R0,qd,p188,Rs.ev,qa,frzs (α:=Int) zo0_1,qG (α:=Int) zo0_1, *])
theorem t188(a0:Int)(a1:List Int)(a2:List (List Int))(a3:List (List Int)){r:List Int}(hF:F188 a0 a1 a2 a3=some r):tans A 188 [1] [V.int .i64 a0,V.isl (a1.map enc),V.isl (a2.map enc),V.isl (a3.map enc)]=some (enc r):=by
 refine tans_of (f:=p188) rfl rfl rfl fun e hl he=>?_;have h0_0:e.at 0=V.int .i64 a0:=he 0 _ rfl;have h1_0:e.at 1=V.isl (a1.map enc):=he 1 _ rfl;have h2_0:e.at 2=V.isl (a2.map enc):=he 2 _ rfl;have h3_0:e.at 3=V.isl (a3.map enc):=he 3 _ rfl;have hl_0:e.length=33:=hl;clear he hl;show W A b188 e ⟨[],0⟩ _;unfold F188 at hF;obtain⟨x1,gx1,hF⟩:=bS hF;have w2:=s205 a0 a1 a3 gx1;obtain⟨x3,gx3,hF⟩:=bS hF;have w4:=s101 a2 gx3;obtain⟨zo0_1,gt15,hF⟩:=bS hF;simp only[simprocAttr, -Int.reduceNatCast',R0,b188, *];refine W.mono (l188_1 x1 x3 gt15 (ei _ (ei _ (ai rfl ?_)))) ?_
 ·simp only[simprocAttr, -Int.reduceNatCast',R0, *]
 rintro _ e _ ⟨rfl,u6,k7,rfl,hl_8,h9_8⟩;have hE:=wB hF; subst hE;simp only[simprocAttr, -Int.reduceNatCast',R0, *];exact jl (by simp only[simprocAttr, -Int.reduceNatCast',R0,qd,p188,Rs.ev,qa,frzs (α:=Int) zo0_1,qG (α:=Int) zo0_1, *])
def F170_1_B(a0:qg)(a1:Int)(a2:Int)(a3:Int)(x1:List (List Int))(v23_1:Int)(o1_1:(List (List Int))):Option (((List (List Int)))⊕((List (List Int)))):=
 (getI x1 v23_1).bind fun x7=>
if 0 < a2 then
 if a1≤a3 then
  (F91 a0.Complex a2 x7).bind fun x11=>
  (chk (a2 - 1)).bind fun x13=>
  (chk (a3 - a1)).bind fun x14=>
  (F187 a0 a1 x13 x14).bind fun x15=>
  (F185 a0 a1 x13 x14).bind fun x17=>
  (F188 a0.Complex.Prime x11 x15 x17).bind fun x19=>
  (app 24 o1_1 [x19]).bind fun l22=>
  some (.inl l22)
 else
  (app 24 o1_1 ([([]:List Int)])).bind fun l24=>
  some (.inl l24)
else
 (app 24 o1_1 ([([]:List Int)])).bind fun l26=>
 some (.inl l26)
def F170_1_D(a0:qg)(a1:Int)(a2:Int)(a3:Int)(x1:List (List Int))(v23_1:Int)(o1_1:(List (List Int))):Option ((List (List Int))):=
 some o1_1
def F170(a0:qg)(a1:Int)(a2:Int)(a3:Int):Option (List (List Int)):=
 (F187 a0 a1 a2 a3).bind fun x1=>
 (forR 0 (x1.length:Int) (F170_1_B a0 a1 a2 a3 x1) (F170_1_D a0 a1 a2 a3 x1) ([]:(List (List Int)))).bind fun zo1_1=>
 some zo1_1
theorem d170(a0:qg)(a1 a2 a3:Int){r:List (List Int)}(hF:F170 a0 a1 a2 a3=some r):∃v h',res A 170 [(eF a0),V.int .i64 a1,V.int .i64 a2,V.int .i64 a3] Heap.empty=some (v,h')∧∃K,Deep.rep h' v r K:=by
 refine je (f:=p170) rfl rfl rfl fun e hl he=>?_;have h0_0:e.at 0=(eF a0):=he 0 _ rfl;have h1_0:e.at 1=V.int .i64 a1:=he 1 _ rfl;have h2_0:e.at 2=V.int .i64 a2:=he 2 _ rfl;have h3_0:e.at 3=V.int .i64 a3:=he 3 _ rfl;have hl_0:e.length=64:=hl;clear he hl;show W A b170 e ⟨[],0⟩ _;unfold F170 at hF;obtain⟨x1,gx1,hF⟩:=bS hF;have w2:=s187 a0 a1 a2 a3 gx1;obtain⟨t,gt,hF⟩:=bS hF;cases hF;simp only[simprocAttr,R0,b170, *];show W A (.block 0 (.loop true b170_1)) _ _ _;rw[ql];refine qq gt _ rfl (fun i s e h=>∃v,∃K:Ks,Deep.rep h v s K∧¬K 2∧h.ents[2]? =some (2,some [V.int .i64 a0.Complex.Prime,V.isl (a0.Complex.Dims.map enc),V.isl (a0.Complex.Maps.map enc)])∧e.length=64∧e.at 1=V.int .i64 a1∧e.at 2=V.int .i64 a2∧e.at 3=V.int .i64 a3∧e.at 4=V.iptr [V.int .i64 a0.Complex.Prime,V.isl (a0.Complex.Dims.map enc),V.isl (a0.Complex.Maps.map enc),V.isl (a0.Levels.map enc)]∧e.at 9=v∧e.at 10=V.ptr 2 2 0∧e.at 21=V.isl (x1.map enc)∧e.at 22=V.int .i64 (x1.length:Int)∧e.at 23=V.int .i64 i) ?_ ?_ ?_
 ·refine⟨V.sl 1 1 0 0 1,fun k=> k=1∨False,rep_at (α:=List Int) (l:=[]) (K:=fun _=> False) (h:=⟨[(0,none),(1,some []),(2,some [V.int .i64 a0.Complex.Prime,V.isl (a0.Complex.Dims.map enc),V.isl (a0.Complex.Maps.map enc)])],3⟩) rfl (fun _ x=> x) (fun x=> x),fun x=> by simp at x,rfl,?_⟩
  simp only[simprocAttr,R0, *]
 ·clear hl_0 h0_0 h1_0 h2_0 h3_0
  rintro i s e ⟨E,c⟩ ⟨v,K,g1,gk,g2,h_1⟩ hlt hw s' ho;unfold F170_1_B at ho;simp only at g2;obtain⟨x7,gx7,ho⟩:=bS ho;obtain⟨w8a,w8b⟩:=qm gx7;have hE2:2 < E.length:=(List.getElem?_eq_some_iff.1 g2).1;have pre1:∀ (x:Nat×Option (List V)) k,k < E.length→(E++[x])[k]? =E[k]?:=fun x k q=> List.getElem?_append_left q;have pre2:∀ (x y:Nat×Option (List V)) k,k < E.length→(E++[x]++[y])[k]? =E[k]?:=fun x y k q=> by rw[wT]; exact List.getElem?_append_left q
  have pre3:∀ (x y z:Nat×Option (List V)) k,k < E.length→(E++[x]++[y]++[z])[k]? =E[k]?:=fun x y z k q=> by rw[wT,wT]; exact List.getElem?_append_left q
  have q1:∀x,(E++[x])[2]? =some (2,some [V.int .i64 a0.Complex.Prime,V.isl (a0.Complex.Dims.map enc),V.isl (a0.Complex.Maps.map enc)]):=fun x=>(pre1 x 2 hE2).trans g2;have q2:∀x y,(E++[x]++[y])[2]? =some (2,some [V.int .i64 a0.Complex.Prime,V.isl (a0.Complex.Dims.map enc),V.isl (a0.Complex.Maps.map enc)]):=fun x y=>(pre2 x y 2 hE2).trans g2;have q3:∀x y z,(E++[x]++[y]++[z])[2]? =some (2,some [V.int .i64 a0.Complex.Prime,V.isl (a0.Complex.Dims.map enc),V.isl (a0.Complex.Maps.map enc)]):=fun x y z=>(pre3 x y z 2 hE2).trans g2;have gl3:∀x y z:Nat×Option (List V),(E++[x]++[y]++[z])[E.length+1+1]? =some z:=fun x y z=> ge3c ..;by_cases c9:0 < a2
  ·rw[if_pos c9]at ho
   by_cases c10:a1≤a3
   ·rw[if_pos c10]at ho
    obtain⟨x11,gx11,ho⟩:=bS ho;have w12:=s91 a0.Complex a2 x7 gx11;obtain⟨x13,gx13,ho⟩:=bS ho;have wx13:=qx gx13;obtain⟨x14,gx14,ho⟩:=bS ho;have wx14:=qx gx14;obtain⟨x15,gx15,ho⟩:=bS ho;have w16:=s187 a0 a1 x13 x14 gx15;obtain⟨x17,gx17,ho⟩:=bS ho;have w18:=s185 a0 a1 x13 x14 gx17;obtain⟨x19,gx19,ho⟩:=bS ho;have w20:tans A 188 [1] [V.int .i64 a0.Complex.Prime,V.isl (x11.map enc),V.isl (x15.map enc),V.isl (x17.map enc)]=some (V.isl (x19.map enc)):=t188 a0.Complex.Prime x11 x15 x17 gx19;have wbr:=bare_one (α:=Int) x19;obtain⟨l22,gl22,ho⟩:=bS ho;cases ho;obtain⟨v',E',c',K',p1,p2,p3,p4,p5⟩:=zn (E:=E++[(c,some [])]++[(c+1,some (x19.map enc))]++[(c+1+1,some [V.sl (E.length+1) (c+1) 0 x19.length 1])]) (c:=c+1+1+1) (Deep.frame g1 fun k q=> pre3 _ _ _ k (Deep.bd g1 q)) (zh (l:=x19) (ge3b ..) fun k=> vU) (fun k q e=> by have:=Deep.bd g1 q; simp only at this; omega) gl22;simp only[le1]at p3 p4 p5;simp only[simprocAttr,R0,b170_1,q1,qK,qY,qy,le1,ge2a,ge2b,p1, *];refine ai rfl ⟨v',K',p2,fun x=>?_,(p4 2 (by omega) gk).trans (q3 _ _ _),?_⟩
    ·rcases p3 2 x with y|y|y
     ·exact gk y
     ·omega
     ·omega
    simp only[simprocAttr,R0, *]
   ·rw[if_neg c10]at ho
    obtain⟨l24,gl24,ho⟩:=bS ho;cases ho;obtain⟨v',E',c',K',p1,p2,p3,p4,p5⟩:=zn (E:=E++[(c,some [])]++[(c+1,some [V.sl E.length c 0 0 1])]) (c:=c+1+1) (Deep.frame g1 fun k q=> pre2 _ _ k (Deep.bd g1 q)) (zh (l:=[]) (ge2a ..) fun k=> vU) (fun k q e=> by have:=Deep.bd g1 q; simp only at this; omega) gl24;simp only[le1]at p3 p4 p5;simp only[wJ]at p1;simp only[simprocAttr,R0,b170_1,qy,le1,ge2a,ge2b,p1, *];refine ai rfl ⟨v',K',p2,fun x=>?_,(p4 2 (by omega) gk).trans (q2 _ _),?_⟩
    ·rcases p3 2 x with y|y|y
     ·exact gk y
     ·omega
     ·omega
    simp only[simprocAttr,R0, *]
  ·rw[if_neg c9]at ho
   obtain⟨l26,gl26,ho⟩:=bS ho;cases ho;obtain⟨v',E',c',K',p1,p2,p3,p4,p5⟩:=zn (E:=E++[(c,some [])]++[(c+1,some [V.sl E.length c 0 0 1])]) (c:=c+1+1) (Deep.frame g1 fun k q=> pre2 _ _ k (Deep.bd g1 q)) (zh (l:=[]) (ge2a ..) fun k=> vU) (fun k q e=> by have:=Deep.bd g1 q; simp only at this; omega) gl26;simp only[le1]at p3 p4 p5;simp only[wJ]at p1;simp only[simprocAttr,R0,b170_1,qy,le1,ge2a,ge2b,p1, *];refine ai rfl ⟨v',K',p2,fun x=>?_,(p4 2 (by omega) gk).trans (q2 _ _),?_⟩
   ·rcases p3 2 x with y|y|y
    ·exact gk y
    ·omega
    ·omega
   simp only[simprocAttr,R0, *]
 ·clear hl_0 h0_0 h1_0 h2_0 h3_0
  rintro i s e ⟨E,c⟩ ⟨v,K,g1,gk,g2,h_1⟩ hge t1 ho;unfold F170_1_D at ho;cases ho;simp only[simprocAttr,R0,b170_1, *];intro ht; subst ht;refine ai (fun _=> trivial) ⟨v,?_,K,g1⟩;simp only[simprocAttr,R0,qd,p170,Rs.ev, *]
theorem s170(a0:qg)(a1 a2 a3:Int){r:List (List Int)}(hF:F170 a0 a1 a2 a3=some r):ans A 170 [(eF a0),V.int .i64 a1,V.int .i64 a2,V.int .i64 a3]=some (enc r):=jy (α:=List (List Int)) (by decide) (d170 a0 a1 a2 a3 hF)
def F152(a0:qg)(a1:Int)(a2:Int)(a3:Int):Option (T2 Int Int):=
 (F166 a0 a1 a2 a3).bind fun x1=>
 if x1=0 then
  (F170 a0 a1 a2 a3).bind fun x4=>
  (F133 a0.Complex.Prime x4).bind fun x6=>
  some ⟨(x6.length:Int),0⟩
 else
  some ⟨0,x1⟩
theorem s152(a0:qg)(a1:Int)(a2:Int)(a3:Int){r:T2 Int Int}(hF:F152 a0 a1 a2 a3=some r):ans A 152 [(eF a0),V.int .i64 a1,V.int .i64 a2,V.int .i64 a3]=some (EncR.enc r):=by
 refine qp (f:=p152) rfl rfl rfl fun e hl he=>?_;have h0_0:e.at 0=(eF a0):=he 0 _ rfl;have h1_0:e.at 1=V.int .i64 a1:=he 1 _ rfl;have h2_0:e.at 2=V.int .i64 a2:=he 2 _ rfl;have h3_0:e.at 3=V.int .i64 a3:=he 3 _ rfl;have hl_0:e.length=29:=hl;clear he hl;have h_0:=ai hl_0 (ai h0_0 (ai h1_0 (ai h2_0 h3_0)));show W A b152 e ⟨[],0⟩ _;unfold F152 at hF;obtain⟨x1,gx1,hF⟩:=bS hF;have w2:=s166 a0 a1 a2 a3 gx1;by_cases c3:x1=0
 ·rw[if_pos c3]at hF
  obtain⟨x4,gx4,hF⟩:=bS hF;have w5:=s170 a0 a1 a2 a3 gx4;obtain⟨x6,gx6,hF⟩:=bS hF;have w7:=s133 a0.Complex.Prime x4 gx6;have w9:=s89 x6 rfl;cases hF;simp only[simprocAttr,R0,b152, *];exact qc (by simp only[simprocAttr,R0,qd,p152,Rs.ev,qa, *])
 ·rw[if_neg c3]at hF
  cases hF;simp only[simprocAttr,R0,b152, *];exact qc (by simp only[simprocAttr,R0,qd,p152,Rs.ev,qa, *])
def F153(a0:qh):Option (T2 (List (List (List Int))) Int):=
 (F42 a0).bind fun x1=>
 if x1=true then
  (F74 a0.Prime a0.Dims).bind fun x3=>
  some ⟨x3.Maps,0⟩
 else
  some ⟨([]:List (List (List Int))),1⟩
theorem s153(a0:qh){r:T2 (List (List (List Int))) Int}(hF:F153 a0=some r):ans A 153 [(eC a0)]=some (EncR.enc r):=by
 refine qp (f:=p153) rfl rfl rfl fun e hl he=>?_;have h0_0:e.at 0=(eC a0):=he 0 _ rfl;have hl_0:e.length=13:=hl;clear he hl;have h_0:=ai hl_0 h0_0;show W A b153 e ⟨[],0⟩ _;unfold F153 at hF;obtain⟨x1,gx1,hF⟩:=bS hF;have w2:=s42 a0 gx1;cases x1 with
 |true=>
  rw[if_pos rfl]at hF;obtain⟨x3,gx3,hF⟩:=bS hF;have w4:=s74 a0.Prime a0.Dims gx3;cases hF;simp only[simprocAttr,R0,b153, *];exact qc (by simp only[simprocAttr,R0,qd,p153,Rs.ev,qa, *])
 |false=>
  rw[if_neg wE]at hF;cases hF;simp only[simprocAttr,R0,b153, *];exact qc (by simp only[simprocAttr,R0,qd,p153,Rs.ev,qa, *])
def F126_1_B(a0:List Int)(a1:Int)(v8_1:Int)(s:Unit):Option ((Unit)⊕((Unit)⊕Int)):=
 (getI a0 v8_1).bind fun x4=>
if a1=x4 then
 some (.inr (.inr v8_1))
else
 some (.inl ())
def F126_1_D(a0:List Int)(a1:Int)(v8_1:Int)(s:Unit):Option ((Unit)⊕Int):=
 some (.inl ())
def F126(a0:List Int)(a1:Int):Option Int:=
 (forR 0 (a0.length:Int) (F126_1_B a0 a1) (F126_1_D a0 a1) ()).bind fun t7=> match t7 with
  | .inl _=>
   some (-1)
  | .inr r8=> some r8
def I126_1(a0:List Int)(a1:Int)(v8_1:Int)(s:Unit)(e:Env)(h:Heap):Prop:=
 ∃k2:Nat,h=⟨[],k2⟩∧e.length=19∧e.at 0=V.isl (a0.map enc)∧e.at 1=V.int .i64 a1∧e.at 7=V.int .i64 (a0.length:Int)∧e.at 8=V.int .i64 v8_1
def P126_1(a0:List Int)(a1:Int)(t:(Unit)⊕Int)(x:Ex)(e:Env)(h:Heap):Prop:=
 match t with
 | .inl _=> x= .normal∧∃k2:Nat,h=⟨[],k2⟩∧e.length=19
 | .inr r=> x= .ret∧Fin p126 (enc r) .ret e h
theorem l126_1(a0:List Int)(a1:Int){lo:Int}{s:Unit}{t:(Unit)⊕Int}(hF:forR lo (a0.length:Int) (F126_1_B a0 a1) (F126_1_D a0 a1) s=some t){e:Env}{h:Heap}(hI:I126_1 a0 a1 lo s e h):W A c126_1 e h (P126_1 a0 a1 t):=by
 show W A (.block 0 (.loop false b126_1)) e h _;rw[ql];refine qq hF 0 (by obtain⟨_,rfl,_⟩:=hI; rfl) (I126_1 a0 a1) hI ?_ ?_
 ·rintro v8_1 _ e h ⟨k2,rfl,h_1⟩ hlt hw o ho
  unfold F126_1_B at ho;obtain⟨x4,gx4,ho⟩:=bS ho;obtain⟨w5a,w5b⟩:=qm gx4;by_cases c6:a1=x4
  ·rw[if_pos c6]at ho
   cases ho;simp only[simprocAttr,R0,b126_1, *];intro ht; subst ht;simp only[simprocAttr,RR,RB];exact ai rfl (qc (by simp only[simprocAttr,R0,qd,p126,Rs.ev,qa, *]))
  ·rw[if_neg c6]at ho
   cases ho;simp only[simprocAttr,R0,b126_1, *];refine ai rfl (ei _ (ai rfl ?_));simp only[simprocAttr,R0, *]
 ·rintro v8_1 _ e h ⟨k2,rfl,h_1⟩ hge t1 ho
  unfold F126_1_D at ho;cases ho;simp only[simprocAttr,R0,b126_1, *];intro ht; subst ht;refine ai rfl (ei _ (ai rfl ?_));simp only[simprocAttr,R0, *]
theorem s126(a0:List Int)(a1:Int){r:Int}(hF:F126 a0 a1=some r):ans A 126 [V.isl (a0.map enc),V.int .i64 a1]=some (enc r):=by
 refine qp (f:=p126) rfl rfl rfl fun e hl he=>?_;have h0_0:e.at 0=V.isl (a0.map enc):=he 0 _ rfl;have h1_0:e.at 1=V.int .i64 a1:=he 1 _ rfl;have hl_0:e.length=19:=hl;clear he hl;have h_0:=ai hl_0 (ai h0_0 h1_0);show W A b126 e ⟨[],0⟩ _;unfold F126 at hF;obtain⟨t7,gt7,hF⟩:=bS hF;rcases t7 with _|r8
 ·dsimp only at hF
  simp only[simprocAttr,R0,b126, *];refine W.mono (l126_1 a0 a1 gt7 (ei _ (ai rfl ?_))) ?_
  ·simp only[simprocAttr,R0, *]
  rintro _ e _ ⟨rfl,k2,rfl,hl_3⟩;cases hF;simp only[simprocAttr,R0, *];exact qc (by simp only[simprocAttr,R0,qd,p126,Rs.ev,qa, *])
 ·dsimp only at hF
  cases hF;simp only[simprocAttr,R0,b126, *];refine W.mono (l126_1 a0 a1 gt7 (ei _ (ai rfl ?_))) ?_
  ·simp only[simprocAttr,R0, *]
  rintro _ e h ⟨rfl,hq⟩;simp only[simprocAttr,RR,RB];exact hq
def F103(a0:List Int)(a1:Int):Option Bool:=
 (F126 a0 a1).bind fun x1=>
 some (decide (0≤x1))
theorem s103(a0:List Int)(a1:Int){r:Bool}(hF:F103 a0 a1=some r):ans A 103 [V.isl (a0.map enc),V.int .i64 a1]=some (enc r):=by
 refine qp (f:=p103) rfl rfl rfl fun e hl he=>?_;have h0_0:e.at 0=V.isl (a0.map enc):=he 0 _ rfl;have h1_0:e.at 1=V.int .i64 a1:=he 1 _ rfl;have hl_0:e.length=9:=hl;clear he hl;show W A b103 e ⟨[],0⟩ _;unfold F103 at hF;obtain⟨x1,gx1,hF⟩:=bS hF;have w2:=s126 a0 a1 gx1;cases hF;simp only[simprocAttr,R0,b103, *];exact qc (by simp only[simprocAttr,R0,qd,p103,Rs.ev,qa, *])
def F63_1_B(x3:List Int)(x5:Int)(v16_1:Int)(o1_1:(List Int)):Option (((List Int))⊕((List Int))):=
 (F103 x3 v16_1).bind fun x11=>
if x11=true then
 some (.inl o1_1)
else
 (app 8 o1_1 [v16_1]).bind fun l14=>
 some (.inl l14)
def F63_1_D(x3:List Int)(x5:Int)(v16_1:Int)(o1_1:(List Int)):Option ((List Int)):=
 some o1_1
def F63(a0:qh)(a1:Int):Option (List Int):=
 (F100 a0 a1).bind fun x1=>
 (F101 x1).bind fun x3=>
 (F102 a0 a1).bind fun x5=>
 (forR 0 x5 (F63_1_B x3 x5) (F63_1_D x3 x5) ([]:(List Int))).bind fun zo1_1=>
 some zo1_1
def I63_1(x3:List Int)(x5:Int)(v16_1:Int)(o1_1:(List Int))(e:Env)(h:Heap):Prop:=
 ∃u8 k9:Nat,h=⟨[(0,none),(u8,some (o1_1.map enc))],k9⟩∧e.length=29∧e.at 5=V.sl 1 u8 0 o1_1.length 1∧e.at 6=V.isl (x3.map enc)∧e.at 15=V.int .i64 x5∧e.at 16=V.int .i64 v16_1
def P63_1(x3:List Int)(x5:Int)(zo1_1:(List Int))(x:Ex)(e:Env)(h:Heap):Prop:=
 x= .normal∧∃u8 k9:Nat,h=⟨[(0,none),(u8,some (zo1_1.map enc))],k9⟩∧e.length=29∧e.at 5=V.sl 1 u8 0 zo1_1.length 1
theorem l63_1(x3:List Int)(x5:Int){lo:Int}{s:(List Int)}{t:(List Int)}(hF:forR lo x5 (F63_1_B x3 x5) (F63_1_D x3 x5) s=some t){e:Env}{h:Heap}(hI:I63_1 x3 x5 lo s e h):W A c63_1 e h (P63_1 x3 x5 t):=by
 show W A (.block 0 (.loop false b63_1)) e h _;rw[ql];refine qq hF 2 (by obtain⟨_,_,rfl,_⟩:=hI; rfl) (I63_1 x3 x5) hI ?_ ?_
 ·rintro v16_1 o1_1 e h ⟨u8,k9,rfl,h_7⟩ hlt hw o ho
  unfold F63_1_B at ho;obtain⟨x11,gx11,ho⟩:=bS ho;have w12:=s103 x3 v16_1 gx11;cases x11 with
  |true=>
   rw[if_pos rfl]at ho;cases ho;simp only[simprocAttr,R0,b63_1, *];refine ai rfl (ei _ (ei _ (ai rfl ?_)));simp only[simprocAttr,R0, *]
  |false=>
   rw[if_neg wE]at ho;obtain⟨l14,gl14,ho⟩:=bS ho;have w13:=fun a b c d e=> qE (α:=Int) (n:=o1_1.length) (m:=1) (ds:=[V.int .i64 v16_1]) gl14 (by first|rfl|simp) (by first|rfl|simp) rfl a b c d e;have w13l:=qQ gl14;cases ho;simp only[simprocAttr,R0,b63_1, *];refine ai rfl (ei _ (ei _ (ai rfl ?_)));simp only[simprocAttr,R0, *]
 ·rintro v16_1 o1_1 e h ⟨u8,k9,rfl,h_7⟩ hge t1 ho
  unfold F63_1_D at ho;cases ho;simp only[simprocAttr,R0,b63_1, *];intro ht; subst ht;refine ai rfl (ei _ (ei _ (ai rfl ?_)));simp only[simprocAttr,R0, *]
theorem s63(a0:qh)(a1:Int){r:List Int}(hF:F63 a0 a1=some r):ans A 63 [(eC a0),V.int .i64 a1]=some (enc r):=by
 refine qp (f:=p63) rfl rfl rfl fun e hl he=>?_;have h0_0:e.at 0=(eC a0):=he 0 _ rfl;have h1_0:e.at 1=V.int .i64 a1:=he 1 _ rfl;have hl_0:e.length=29:=hl;clear he hl;show W A b63 e ⟨[],0⟩ _;unfold F63 at hF;obtain⟨x1,gx1,hF⟩:=bS hF;have w2:=s100 a0 a1 gx1;obtain⟨x3,gx3,hF⟩:=bS hF;have w4:=s101 x1 gx3;obtain⟨x5,gx5,hF⟩:=bS hF;have w6:=s102 a0 a1 gx5;obtain⟨zo1_1,gt15,hF⟩:=bS hF;simp only[simprocAttr, -Int.reduceNatCast',R0,b63, *];refine W.mono (l63_1 x3 x5 gt15 (ei _ (ei _ (ai rfl ?_)))) ?_
 ·simp only[simprocAttr, -Int.reduceNatCast',R0, *]
 rintro _ e _ ⟨rfl,u8,k9,rfl,hl_10,h5_10⟩;have hE:=wB hF; subst hE;simp only[simprocAttr, -Int.reduceNatCast',R0, *];exact qc (by simp only[simprocAttr, -Int.reduceNatCast',R0,qd,p63,Rs.ev,qa,frzs (α:=Int) zo1_1,qG (α:=Int) zo1_1, *])
def F189(a0:qh)(a1:Int):Option (List (List Int)):=
 (F100 a0 a1).bind fun x1=>
 (F186 a0 a1).bind fun x3=>
 (F204 a0.Prime x1 x3).bind fun x5=>
 some x5
theorem d189(x:qh)(n:Int){r:List (List Int)}(hF:F189 x n=some r):∃v h',res A 189 [(eC x),V.int .i64 n] Heap.empty=some (v,h')∧∃K,Deep.rep h' v r K:=by
 refine je (f:=p189) rfl rfl rfl fun e hl he=>?_;have h0_0:e.at 0=(eC x):=he 0 _ rfl;have h1_0:e.at 1=V.int .i64 n:=he 1 _ rfl;have hl_0:e.length=14:=hl;clear he hl;show W A b189 e ⟨[],0⟩ _;unfold F189 at hF;obtain⟨x1,gx1,hF⟩:=bS hF;have w2:=s100 x n gx1;obtain⟨x3,gx3,hF⟩:=bS hF;have w4:=s186 x n gx3;obtain⟨x5,gx5,hF⟩:=bS hF;have w6:tans A 204 [1,1] [V.int .i64 x.Prime,V.isl (x1.map enc),V.isl (x3.map enc)]=some (V.isl (x5.map enc)):=x204 x.Prime x1 x3 gx5;have hE:=wB hF; subst hE;obtain⟨v,⟨E1,c1⟩,K,t1,t2,t3,t4,t5⟩:=thawD (α:=List (List Int)) (by decide) x5 ⟨[(0,none)],1⟩;have t1':thaw 16 [1,1] (V.isl (x5.map enc)) ⟨[(0,none)],1⟩=some (v,⟨E1,c1⟩):=t1;simp only[simprocAttr, -Int.reduceNatCast',R0,b189,qK,t1', *];refine ai (fun _=> trivial) ⟨v,?_,K,t2⟩;simp only[simprocAttr, -Int.reduceNatCast',R0,qd,p189,Rs.ev, *]
theorem x189(x:qh)(n:Int){r:List (List Int)}(hF:F189 x n=some r):tans A 189 [1,1] [(eC x),V.int .i64 n]=some (enc r):=zo (α:=List (List Int)) (by decide) (d189 x n hF)
def F190_1_B(a0:Int)(a1:Int)(a2:List (List Int))(v18_1:Int)(o0_1:(List (List Int))):Option (((List (List Int)))⊕((List (List Int)))):=
 (getI a2 v18_1).bind fun x5=>
(F96 x5).bind fun x7=>
(F132 (a2.length:Int) v18_1).bind fun x11=>
(app 8 x7 x11).bind fun l14=>
(app 24 o0_1 [l14]).bind fun l16=>
some (.inl l16)
def F190_1_D(a0:Int)(a1:Int)(a2:List (List Int))(v18_1:Int)(o0_1:(List (List Int))):Option ((List (List Int))):=
 some o0_1
def F190_2_B(a1:Int)(x18:List (List Int))(v40_2:Int)(s:(List (List Int))×(List (List Int))):Option (((List (List Int))×(List (List Int)))⊕((List (List Int))×(List (List Int)))):=
 match s with
 |(o1_2,o2_2)=>
  (getI x18 v40_2).bind fun x25=>
  (slI x25 0 a1).bind fun l27=>
  (F92 l27).bind fun x29=>
  if x29=true then
   some (.inl (o1_2,o2_2))
  else
   (F96 l27).bind fun x31=>
   (app 24 o1_2 [x31]).bind fun l34=>
   (slI x25 a1 (x25.length:Int)).bind fun l35=>
   (F96 l35).bind fun x37=>
   (app 24 o2_2 [x37]).bind fun l40=>
   some (.inl (l34,l40))
def F190_2_D(a1:Int)(x18:List (List Int))(v40_2:Int)(s:(List (List Int))×(List (List Int))):Option ((List (List Int))×(List (List Int))):=
 match s with
 |(o1_2,o2_2)=>
  some (o1_2,o2_2)
def F190(a0:Int)(a1:Int)(a2:List (List Int)):Option (T2 (List (List Int)) (List (List Int))):=
 (forR 0 (a2.length:Int) (F190_1_B a0 a1 a2) (F190_1_D a0 a1 a2) ([]:(List (List Int)))).bind fun zo0_1=>
 (F133 a0 zo0_1).bind fun x18=>
 (forR 0 (x18.length:Int) (F190_2_B a1 x18) (F190_2_D a1 x18) ([],[])).bind fun t41=> match t41 with
  |(zo1_2,zo2_2)=>
   some ⟨zo1_2,zo2_2⟩
def I190_1(a0:Int)(a1:Int)(a2:List (List Int))(v18_1:Int)(o0_1:(List (List Int)))(e:Env)(h:Heap):Prop:=
 ∃u2 k3:Nat,h=⟨[(u2,some (o0_1.map enc))],k3⟩∧e.length=66∧e.at 0=V.int .i64 a0∧e.at 1=V.int .i64 a1∧e.at 2=V.isl (a2.map enc)∧e.at 8=V.sl 0 u2 0 o0_1.length 1∧e.at 16=V.isl (a2.map enc)∧e.at 17=V.int .i64 (a2.length:Int)∧e.at 18=V.int .i64 v18_1
def P190_1(a0:Int)(a1:Int)(a2:List (List Int))(zo0_1:(List (List Int)))(x:Ex)(e:Env)(h:Heap):Prop:=
 x= .normal∧∃u2 k3:Nat,h=⟨[(u2,some (zo0_1.map enc))],k3⟩∧e.length=66∧e.at 0=V.int .i64 a0∧e.at 1=V.int .i64 a1∧e.at 8=V.sl 0 u2 0 zo0_1.length 1
theorem l190_1(a0:Int)(a1:Int)(a2:List (List Int)){lo:Int}{s:(List (List Int))}{t:(List (List Int))}(hF:forR lo (a2.length:Int) (F190_1_B a0 a1 a2) (F190_1_D a0 a1 a2) s=some t){e:Env}{h:Heap}(hI:I190_1 a0 a1 a2 lo s e h):W A c190_1 e h (P190_1 a0 a1 a2 t):=by
 show W A (.block 0 (.loop false b190_1)) e h _;rw[ql];refine qq hF 1 (by obtain⟨_,_,rfl,_⟩:=hI; rfl) (I190_1 a0 a1 a2) hI ?_ ?_
 ·rintro v18_1 o0_1 e h ⟨u2,k3,rfl,h_1⟩ hlt hw o ho
  unfold F190_1_B at ho;obtain⟨x5,gx5,ho⟩:=bS ho;obtain⟨w6a,w6b⟩:=qm gx5;obtain⟨x7,gx7,ho⟩:=bS ho;have w8:tans A 96 [1] [V.isl (x5.map enc)]=some (V.isl (x7.map enc)):=t96 x5 gx7;have w8t:=qY (α:=Int) x7;have w10:ans A 89 [V.isl (a2.map enc)]=some (V.int .i64 (a2.length:Int)):=s89 a2 rfl;obtain⟨x11,gx11,ho⟩:=bS ho;have w12:ans A 132 [V.int .i64 (a2.length:Int),V.int .i64 v18_1]=some (V.isl (x11.map enc)):=s132 (a2.length:Int) v18_1 gx11;obtain⟨l14,gl14,ho⟩:=bS ho;have w13:=fun a b c d e=> qE (α:=Int) (n:=x7.length) (m:=x11.length) (ds:=List.map enc x11) gl14 (by first|rfl|simp) (by first|rfl|simp) rfl a b c d e;have w13l:=qQ gl14;obtain⟨l16,gl16,ho⟩:=bS ho;have w15:=fun a b c d e=> qE (α:=List Int) (n:=o0_1.length) (m:=1) (ds:=[V.isl (l14.map enc)]) gl16 (by first|rfl|simp) (by first|rfl|simp) rfl a b c d e;have w15l:=qQ gl16;cases ho;simp only[simprocAttr,R0,b190_1,h_1,eq_true hlt,hw,w6a,w6b,w8,w8t,w10,w12,w13,qG (α:=Int) l14,w15];refine ai rfl (ei _ (ei _ (ai rfl ?_)));simp only[simprocAttr,R0,h_1,eq_true hlt,hw,w6a,w6b,w8,w8t,w10,w12,w13,qG (α:=Int) l14,w15]
 ·rintro v18_1 o0_1 e h ⟨u2,k3,rfl,h_1⟩ hge t1 ho
  unfold F190_1_D at ho;cases ho;simp only[simprocAttr,R0,b190_1,h_1,eq_false hge];intro ht; subst ht;refine ai rfl (ei _ (ei _ (ai rfl ?_)));simp only[simprocAttr,R0,h_1,eq_false hge]
def I190_2(a1:Int)(x18:List (List Int))(v40_2:Int)(s:(List (List Int))×(List (List Int)))(e:Env)(h:Heap):Prop:=
 match s with
 |(o1_2,o2_2)=>
  ∃u21 u22 k23:Nat,h=⟨[(0,none),(u21,some (o1_2.map enc)),(u22,some (o2_2.map enc))],k23⟩∧e.length=66∧e.at 1=V.int .i64 a1∧e.at 11=V.sl 1 u21 0 o1_2.length 1∧e.at 12=V.sl 2 u22 0 o2_2.length 1∧e.at 38=V.isl (x18.map enc)∧e.at 39=V.int .i64 (x18.length:Int)∧e.at 40=V.int .i64 v40_2
def P190_2(a1:Int)(x18:List (List Int))(t:(List (List Int))×(List (List Int)))(x:Ex)(e:Env)(h:Heap):Prop:=
 match t with
 |(zo1_2,zo2_2)=>
  x= .normal∧∃u21 u22 k23:Nat,h=⟨[(0,none),(u21,some (zo1_2.map enc)),(u22,some (zo2_2.map enc))],k23⟩∧e.length=66∧e.at 11=V.sl 1 u21 0 zo1_2.length 1∧e.at 12=V.sl 2 u22 0 zo2_2.length 1
theorem l190_2(a1:Int)(x18:List (List Int)){lo:Int}{s:(List (List Int))×(List (List Int))}{t:(List (List Int))×(List (List Int))}(hF:forR lo (x18.length:Int) (F190_2_B a1 x18) (F190_2_D a1 x18) s=some t){e:Env}{h:Heap}(hI:I190_2 a1 x18 lo s e h):W A c190_2 e h (P190_2 a1 x18 t):=by
 show W A (.block 2 (.loop false b190_2)) e h _;rw[ql];refine qq hF 3 (by rcases s with⟨_,_⟩; obtain⟨_,_,_,rfl,_⟩:=hI; rfl) (I190_2 a1 x18) hI ?_ ?_
 ·rintro v40_2 ⟨o1_2,o2_2⟩ e h ⟨u21,u22,k23,rfl,h_20⟩ hlt hw o ho
  unfold F190_2_B at ho;dsimp only at ho;obtain⟨x25,gx25,ho⟩:=bS ho;obtain⟨w26a,w26b⟩:=qm gx25;obtain⟨l27,gl27,ho⟩:=bS ho;have w28:jB 1 (V.isl (x25.map enc)) none (some (V.int .i64 a1))=some (V.isl (l27.map enc)):=sliceV_w (α:=Int) One.one gl27 (.inl ⟨rfl,rfl⟩) (.inr rfl);obtain⟨x29,gx29,ho⟩:=bS ho;have w30:=s92 l27 gx29;cases x29 with
  |true=>
   rw[if_pos rfl]at ho;cases ho;simp only[simprocAttr,R0,b190_2, *];refine ai rfl (ei _ (ei _ (ei _ (ai rfl ?_))));simp only[simprocAttr,R0, *]
  |false=>
   rw[if_neg wE]at ho;obtain⟨x31,gx31,ho⟩:=bS ho;have w32:=s96 l27 gx31;obtain⟨l34,gl34,ho⟩:=bS ho;have w33:=fun a b c d e=> qE (α:=List Int) (n:=o1_2.length) (m:=1) (ds:=[V.isl (x31.map enc)]) gl34 (by first|rfl|simp) (by first|rfl|simp) rfl a b c d e;have w33l:=qQ gl34;obtain⟨l35,gl35,ho⟩:=bS ho;have w36:jB 1 (V.isl (x25.map enc)) (some (V.int .i64 a1)) none=some (V.isl (l35.map enc)):=sliceV_w (α:=Int) One.one gl35 (.inr rfl) (.inl ⟨rfl,rfl⟩);obtain⟨x37,gx37,ho⟩:=bS ho;have w38:=s96 l35 gx37;obtain⟨l40,gl40,ho⟩:=bS ho;have w39:=fun a b c d e=> qE (α:=List Int) (n:=o2_2.length) (m:=1) (ds:=[V.isl (x37.map enc)]) gl40 (by first|rfl|simp) (by first|rfl|simp) rfl a b c d e;have w39l:=qQ gl40;cases ho;simp only[simprocAttr,R0,b190_2, *];refine ai rfl (ei _ (ei _ (ei _ (ai rfl ?_))));simp only[simprocAttr,R0, *]
 ·rintro v40_2 ⟨o1_2,o2_2⟩ e h ⟨u21,u22,k23,rfl,h_20⟩ hge t1 ho
  unfold F190_2_D at ho;dsimp only at ho;cases ho;simp only[simprocAttr,R0,b190_2, *];intro ht; subst ht;refine ai rfl (ei _ (ei _ (ei _ (ai rfl ?_))));simp only[simprocAttr,R0, *]
theorem s190(a0:Int)(a1:Int)(a2:List (List Int)){r:T2 (List (List Int)) (List (List Int))}(hF:F190 a0 a1 a2=some r):ans A 190 [V.int .i64 a0,V.int .i64 a1,V.isl (a2.map enc)]=some (EncR.enc r):=by
 refine qp (f:=p190) rfl rfl rfl fun e hl he=>?_;have h0_0:e.at 0=V.int .i64 a0:=he 0 _ rfl;have h1_0:e.at 1=V.int .i64 a1:=he 1 _ rfl;have h2_0:e.at 2=V.isl (a2.map enc):=he 2 _ rfl;have hl_0:e.length=66:=hl;clear he hl;show W A b190 e ⟨[],0⟩ _;unfold F190 at hF;obtain⟨zo0_1,gt17,hF⟩:=bS hF;simp only[simprocAttr,R0,b190, *];refine W.mono (l190_1 a0 a1 a2 gt17 (ei _ (ei _ (ai rfl ?_)))) ?_
 ·simp only[simprocAttr,R0, *]
 rintro _ e _ ⟨rfl,u2,k3,rfl,h_4⟩;obtain⟨x18,gx18,hF⟩:=bS hF;have w19:=s133 a0 zo0_1 gx18;obtain⟨⟨zo1_2,zo2_2⟩,gt41,hF⟩:=bS hF;dsimp only at hF;simp only[simprocAttr,R0,qG (α:=List Int) zo0_1, *];refine W.mono (l190_2 a1 x18 gt41 (ei _ (ei _ (ei _ (ai rfl ?_))))) ?_
 ·simp only[simprocAttr,R0,qG (α:=List Int) zo0_1, *]
 rintro _ e _ ⟨rfl,u21,u22,k23,rfl,h_24⟩;cases hF;simp only[simprocAttr,R0, *];exact qc (by simp only[simprocAttr,R0,qd,p190,Rs.ev,qa,frzs (α:=List Int) zo1_2,qG (α:=List Int) zo1_2,frzs (α:=List Int) zo2_2,qG (α:=List Int) zo2_2, *])
def F173_1_B(a0:Int)(a2:List Int)(a3:Int)(v16_1:Int)(o0_1:(List Int)):Option (((List Int))⊕((List Int))):=
 (getI a2 v16_1).bind fun x7=>
(getI o0_1 v16_1).bind fun x9=>
(chk (a3*x7)).bind fun x11=>
(chk (x9+x11)).bind fun x12=>
(remI x12 a0).bind fun x13=>
(setI o0_1 v16_1 x13).bind fun l15=>
some (.inl l15)
def F173_1_D(a0:Int)(a2:List Int)(a3:Int)(v16_1:Int)(o0_1:(List Int)):Option ((List Int)):=
 some o0_1
def F173(a0:Int)(a1:List Int)(a2:List Int)(a3:Int):Option (List Int):=
 (F96 a1).bind fun x1=>
 (forR 0 (a2.length:Int) (F173_1_B a0 a2 a3) (F173_1_D a0 a2 a3) x1).bind fun zo0_1=>
 some zo0_1
def I173_1(a0:Int)(a2:List Int)(a3:Int)(v16_1:Int)(o0_1:(List Int))(e:Env)(h:Heap):Prop:=
 ∃u4 k5:Nat,h=⟨[(u4,some (o0_1.map enc))],k5⟩∧e.length=36∧e.at 0=V.int .i64 a0∧e.at 3=V.int .i64 a3∧e.at 9=V.sl 0 u4 0 o0_1.length 1∧e.at 14=V.isl (a2.map enc)∧e.at 15=V.int .i64 (a2.length:Int)∧e.at 16=V.int .i64 v16_1
def P173_1(a0:Int)(a2:List Int)(a3:Int)(zo0_1:(List Int))(x:Ex)(e:Env)(h:Heap):Prop:=
 x= .normal∧∃u4 k5:Nat,h=⟨[(u4,some (zo0_1.map enc))],k5⟩∧e.length=36∧e.at 9=V.sl 0 u4 0 zo0_1.length 1
theorem l173_1(a0:Int)(a2:List Int)(a3:Int){lo:Int}{s:(List Int)}{t:(List Int)}(hF:forR lo (a2.length:Int) (F173_1_B a0 a2 a3) (F173_1_D a0 a2 a3) s=some t){e:Env}{h:Heap}(hI:I173_1 a0 a2 a3 lo s e h):W A c173_1 e h (P173_1 a0 a2 a3 t):=by
 show W A (.block 0 (.loop false b173_1)) e h _;rw[ql];refine qq hF 1 (by obtain⟨_,_,rfl,_⟩:=hI; rfl) (I173_1 a0 a2 a3) hI ?_ ?_
 ·rintro v16_1 o0_1 e h ⟨u4,k5,rfl,h_3⟩ hlt hw o ho
  unfold F173_1_B at ho;obtain⟨x7,gx7,ho⟩:=bS ho;obtain⟨w8a,w8b⟩:=qm gx7;obtain⟨x9,gx9,ho⟩:=bS ho;obtain⟨w10a,w10b⟩:=qm gx9;have w10c:=qM gx9;have w10d:List.drop (Int.toNat v16_1) (o0_1.map enc)=(V.int .i64 x9)::List.drop ((Int.toNat v16_1)+1) (o0_1.map enc):=jp w10b;obtain⟨x11,gx11,ho⟩:=bS ho;have wx11:=qx gx11;obtain⟨x12,gx12,ho⟩:=bS ho;have wx12:=qx gx12;obtain⟨x13,gx13,ho⟩:=bS ho;obtain⟨w14a,w14b⟩:=rem_w gx13;obtain⟨l15,gl15,ho⟩:=bS ho;obtain⟨w16a,w16b,w16c,w16d,w16e⟩:=setI_w gl15;replace w16e:List.take (Int.toNat v16_1) (o0_1.map enc)++[V.int .i64 x13]++List.drop (Int.toNat v16_1+1) (o0_1.map enc)=List.map enc l15:=w16e;cases ho;simp only[simprocAttr,R0,b173_1, *];refine ai rfl (ei _ (ei _ (ai rfl ?_)));simp only[simprocAttr,R0, *]
 ·rintro v16_1 o0_1 e h ⟨u4,k5,rfl,h_3⟩ hge t1 ho
  unfold F173_1_D at ho;cases ho;simp only[simprocAttr,R0,b173_1, *];intro ht; subst ht;refine ai rfl (ei _ (ei _ (ai rfl ?_)));simp only[simprocAttr,R0, *]
theorem s173(a0:Int)(a1:List Int)(a2:List Int)(a3:Int){r:List Int}(hF:F173 a0 a1 a2 a3=some r):ans A 173 [V.int .i64 a0,V.isl (a1.map enc),V.isl (a2.map enc),V.int .i64 a3]=some (enc r):=by
 refine qp (f:=p173) rfl rfl rfl fun e hl he=>?_;have h0_0:e.at 0=V.int .i64 a0:=he 0 _ rfl;have h1_0:e.at 1=V.isl (a1.map enc):=he 1 _ rfl;have h2_0:e.at 2=V.isl (a2.map enc):=he 2 _ rfl;have h3_0:e.at 3=V.int .i64 a3:=he 3 _ rfl;have hl_0:e.length=36:=hl;clear he hl;show W A b173 e ⟨[],0⟩ _;unfold F173 at hF;obtain⟨x1,gx1,hF⟩:=bS hF;have w2:tans A 96 [1] [V.isl (a1.map enc)]=some (V.isl (x1.map enc)):=t96 a1 gx1;have w2t:=qY (α:=Int) x1;obtain⟨zo0_1,gt17,hF⟩:=bS hF;simp only[simprocAttr, -Int.reduceNatCast',R0,b173, *];refine W.mono (l173_1 a0 a2 a3 gt17 (ei _ (ei _ (ai rfl ?_)))) ?_
 ·simp only[simprocAttr, -Int.reduceNatCast',R0, *]
 rintro _ e _ ⟨rfl,u4,k5,rfl,hl_6,h9_6⟩;have hE:=wB hF; subst hE;simp only[simprocAttr, -Int.reduceNatCast',R0, *];exact qc (by simp only[simprocAttr, -Int.reduceNatCast',R0,qd,p173,Rs.ev,qa,frzs (α:=Int) zo0_1,qG (α:=Int) zo0_1, *])
def F191(a0:qh)(a1:Int)(a2:List Int):Option (T3 (List Int) (List Int) (List Int)):=
 (F100 a0 a1).bind fun x1=>
 (F205 a0.Prime a2 x1).bind fun x3=>
 (chk (a0.Prime - 1)).bind fun x5=>
 (F173 a0.Prime a2 x3 x5).bind fun x6=>
 (F186 a0 a1).bind fun x8=>
 (F205 a0.Prime x6 x8).bind fun x10=>
 (F173 a0.Prime x6 x10 x5).bind fun x12=>
 some ⟨x12,x10,x3⟩
theorem s191(a0:qh)(a1:Int)(a2:List Int){r:T3 (List Int) (List Int) (List Int)}(hF:F191 a0 a1 a2=some r):ans A 191 [(eC a0),V.int .i64 a1,V.isl (a2.map enc)]=some (EncR.enc r):=by
 refine qp (f:=p191) rfl rfl rfl fun e hl he=>?_;have h0_0:e.at 0=(eC a0):=he 0 _ rfl;have h1_0:e.at 1=V.int .i64 a1:=he 1 _ rfl;have h2_0:e.at 2=V.isl (a2.map enc):=he 2 _ rfl;have hl_0:e.length=41:=hl;clear he hl;show W A b191 e ⟨[],0⟩ _;unfold F191 at hF;obtain⟨x1,gx1,hF⟩:=bS hF;have w2:=s100 a0 a1 gx1;obtain⟨x3,gx3,hF⟩:=bS hF;have w4:=s205 a0.Prime a2 x1 gx3;obtain⟨x5,gx5,hF⟩:=bS hF;have wx5:=qx gx5;obtain⟨x6,gx6,hF⟩:=bS hF;have w7:=s173 a0.Prime a2 x3 x5 gx6;obtain⟨x8,gx8,hF⟩:=bS hF;have w9:=s186 a0 a1 gx8;obtain⟨x10,gx10,hF⟩:=bS hF;have w11:=s205 a0.Prime x6 x8 gx10;obtain⟨x12,gx12,hF⟩:=bS hF;have w13:=s173 a0.Prime x6 x10 x5 gx12;cases hF;simp only[simprocAttr,R0,b191, *];exact qc (by simp only[simprocAttr,R0,qd,p191,Rs.ev,qa, *])
def F171_2_B(a0:qh)(o2_1:List (List (List Int)))(o3_1:List (List (List Int)))(o4_1:List (List (List Int)))(v31_1:Int)(x9:List (List Int))(x11:List Int)(v44_2:Int)(o6_2:(List (List Int))):Option (((List (List Int)))⊕((List (List Int)))):=
 (getI x11 v44_2).bind fun x17=>
(chk (v31_1+1)).bind fun x19=>
(F102 a0 x19).bind fun x20=>
(F132 x20 x17).bind fun x22=>
(F91 a0 x19 x22).bind fun x24=>
(app 24 o6_2 [x24]).bind fun l27=>
some (.inl l27)
def F171_2_D(a0:qh)(o2_1:List (List (List Int)))(o3_1:List (List (List Int)))(o4_1:List (List (List Int)))(v31_1:Int)(x9:List (List Int))(x11:List Int)(v44_2:Int)(o6_2:(List (List Int))):Option ((List (List Int))):=
 some o6_2
def F171_5_B(a0:qh)(o2_1:List (List (List Int)))(o3_1:List (List (List Int)))(o4_1:List (List (List Int)))(v31_1:Int)(x9:List (List Int))(x11:List Int)(x31:T2 (List (List Int)) (List (List Int)))(x33:List (List Int))(o8_3:List (List Int))(v78_3:Int)(x44:List Int)(l47:List (List Int))(x53:List Int)(v107_4:Int)(x59:Int)(x61:List Int)(v117_5:Int)(o10_5:(List Int)):Option (((List Int))⊕((List Int))):=
 (getI x61 v117_5).bind fun x67=>
(getI x11 v117_5).bind fun x69=>
(getI o10_5 x69).bind fun x71=>
(chk (x59*x67)).bind fun x73=>
(chk (x71+x73)).bind fun x74=>
(remI x74 a0.Prime).bind fun x75=>
(setI o10_5 x69 x75).bind fun l77=>
some (.inl l77)
def F171_5_D(a0:qh)(o2_1:List (List (List Int)))(o3_1:List (List (List Int)))(o4_1:List (List (List Int)))(v31_1:Int)(x9:List (List Int))(x11:List Int)(x31:T2 (List (List Int)) (List (List Int)))(x33:List (List Int))(o8_3:List (List Int))(v78_3:Int)(x44:List Int)(l47:List (List Int))(x53:List Int)(v107_4:Int)(x59:Int)(x61:List Int)(v117_5:Int)(o10_5:(List Int)):Option ((List Int)):=
 some o10_5
def F171_4_B(a0:qh)(o2_1:List (List (List Int)))(o3_1:List (List (List Int)))(o4_1:List (List (List Int)))(v31_1:Int)(x9:List (List Int))(x11:List Int)(x31:T2 (List (List Int)) (List (List Int)))(x33:List (List Int))(o8_3:List (List Int))(v78_3:Int)(x44:List Int)(l47:List (List Int))(x53:List Int)(v107_4:Int)(o10_4:(List Int)):Option (((List Int))⊕((List Int))):=
 (getI x53 v107_4).bind fun x59=>
(getI x31.b v107_4).bind fun x61=>
(forR 0 (x61.length:Int) (F171_5_B a0 o2_1 o3_1 o4_1 v31_1 x9 x11 x31 x33 o8_3 v78_3 x44 l47 x53 v107_4 x59 x61) (F171_5_D a0 o2_1 o3_1 o4_1 v31_1 x9 x11 x31 x33 o8_3 v78_3 x44 l47 x53 v107_4 x59 x61) o10_4).bind fun zo10_5=>
some (.inl zo10_5)
def F171_4_D(a0:qh)(o2_1:List (List (List Int)))(o3_1:List (List (List Int)))(o4_1:List (List (List Int)))(v31_1:Int)(x9:List (List Int))(x11:List Int)(x31:T2 (List (List Int)) (List (List Int)))(x33:List (List Int))(o8_3:List (List Int))(v78_3:Int)(x44:List Int)(l47:List (List Int))(x53:List Int)(v107_4:Int)(o10_4:(List Int)):Option ((List Int)):=
 some o10_4
def F171_3_B(a0:qh)(o2_1:List (List (List Int)))(o3_1:List (List (List Int)))(o4_1:List (List (List Int)))(v31_1:Int)(x9:List (List Int))(x11:List Int)(x31:T2 (List (List Int)) (List (List Int)))(x33:List (List Int))(v78_3:Int)(s:(List (List Int))×(List (List Int))):Option (((List (List Int))×(List (List Int)))⊕((List (List Int))×(List (List Int)))):=
 match s with
 |(o7_3,o8_3)=>
  (getI x33 v78_3).bind fun x40=>
  (F191 a0 v31_1 x40).bind fun x42=>
  (F188 a0.Prime x42.b x9 []).bind fun x44=>
  (app 24 o7_3 [x44]).bind fun l47=>
  (chk (v31_1+1)).bind fun x48=>
  (F102 a0 x48).bind fun x49=>
  (mkL 8 x49 0).bind fun l51=>
  (F188 a0.Prime x42.a x31.a []).bind fun x53=>
  (forR 0 (x53.length:Int) (F171_4_B a0 o2_1 o3_1 o4_1 v31_1 x9 x11 x31 x33 o8_3 v78_3 x44 l47 x53) (F171_4_D a0 o2_1 o3_1 o4_1 v31_1 x9 x11 x31 x33 o8_3 v78_3 x44 l47 x53) l51).bind fun zo10_4=>
  (app 24 o8_3 [zo10_4]).bind fun l82=>
  some (.inl (l47,l82))
def F171_3_D(a0:qh)(o2_1:List (List (List Int)))(o3_1:List (List (List Int)))(o4_1:List (List (List Int)))(v31_1:Int)(x9:List (List Int))(x11:List Int)(x31:T2 (List (List Int)) (List (List Int)))(x33:List (List Int))(v78_3:Int)(s:(List (List Int))×(List (List Int))):Option ((List (List Int))×(List (List Int))):=
 match s with
 |(o7_3,o8_3)=>
  some (o7_3,o8_3)
def F171_1_B(a0:qh)(v31_1:Int)(s:(List (List (List Int)))×(List (List (List Int)))×(List (List (List Int)))):Option (((List (List (List Int)))×(List (List (List Int)))×(List (List (List Int))))⊕((List (List (List Int)))×(List (List (List Int)))×(List (List (List Int))))):=
 match s with
 |(o2_1,o3_1,o4_1)=>
  (F189 a0 v31_1).bind fun x9=>
  (F63 a0 (v31_1+1)).bind fun x11=>
  (forR 0 (x11.length:Int) (F171_2_B a0 o2_1 o3_1 o4_1 v31_1 x9 x11) (F171_2_D a0 o2_1 o3_1 o4_1 v31_1 x9 x11) ([]:(List (List Int)))).bind fun zo6_2=>
  (F102 a0 v31_1).bind fun x29=>
  (F190 a0.Prime x29 zo6_2).bind fun x31=>
  (F124 x29).bind fun x33=>
  (forR 0 (x33.length:Int) (F171_3_B a0 o2_1 o3_1 o4_1 v31_1 x9 x11 x31 x33) (F171_3_D a0 o2_1 o3_1 o4_1 v31_1 x9 x11 x31 x33) ([],[])).bind fun t83=> match t83 with
   |(zo7_3,zo8_3)=>
    (app 24 o2_1 [zo7_3]).bind fun l85=>
    (app 24 o3_1 [x9]).bind fun l87=>
    (app 24 o4_1 [zo8_3]).bind fun l89=>
    some (.inl (l85,l87,l89))
def F171_1_D(a0:qh)(v31_1:Int)(s:(List (List (List Int)))×(List (List (List Int)))×(List (List (List Int)))):Option ((List (List (List Int)))×(List (List (List Int)))×(List (List (List Int)))):=
 match s with
 |(o2_1,o3_1,o4_1)=>
  some (o2_1,o3_1,o4_1)
def F171(a0:qh):Option qj:=
 (forR 0 (a0.Dims.length:Int) (F171_1_B a0) (F171_1_D a0) ([],[],[])).bind fun t90=> match t90 with
  |(zo2_1,zo3_1,zo4_1)=>
   some ⟨zo2_1,zo3_1,zo4_1⟩
theorem l171_5(x:qh)(o2 o3 o4:List (List (List Int)))(n:Int)(hs:List (List Int))(fr:List Int)(sr:T2 (List (List Int)) (List (List Int)))(us:List (List Int))(o8:List (List Int))(i:Int)(c1:List Int)(l7:List (List Int))(cs:List Int)(j y:Int)(g:List Int){s0 s1:List Int}{kw uW m:Nat}{v6 v13 v14:V}{E0:List (Nat×Option (List V))}(hW:kw < E0.length)(hF:forR 0 (g.length:Int) (F171_5_B x o2 o3 o4 n hs fr sr us o8 i c1 l7 cs j y g) (F171_5_D x o2 o3 o4 n hs fr sr us o8 i c1 l7 cs j y g) s0=some s1){e:Env}{h:Heap}(hH:h.ents[kw]? =some (uW,some (s0.map enc))∧s0.length=m∧(∀k,k < E0.length→k≠kw→h.ents[k]? =E0[k]?)∧E0.length≤h.ents.length)
  (hl_0:e.length=168) (h1_0:e.at 1=V.iptr [V.int .i64 x.Prime,V.isl (x.Dims.map enc),V.isl (x.Maps.map enc)]) (h2_0:e.at 2=V.ptr 1 1 0) (h3_0:e.at 3=V.ptr 2 2 0) (h4_0:e.at 4=V.int .i64 x.Prime) (h30_0:e.at 30=V.int .i64 (x.Dims.length:Int)) (h31_0:e.at 31=V.int .i64 n) (h5_0:e.at 5=V.int .i64 n) (h6_0:e.at 6=v6) (h7_0:e.at 7=V.isl (fr.map enc)) (h11_0:e.at 11=V.isl (sr.a.map enc)) (h12_0:e.at 12=V.isl (sr.b.map enc)) (h76_0:e.at 76=V.isl (us.map enc)) (h77_0:e.at 77=V.int .i64 (us.length:Int)) (h13_0:e.at 13=v13) (h14_0:e.at 14=v14) (h78_0:e.at 78=V.int .i64 i) (h20_0:e.at 20=V.sl kw uW 0 m 1) (h105_0:e.at 105=V.isl (cs.map enc)) (h106_0:e.at 106=V.int .i64 (cs.length:Int)) (h107_0:e.at 107=V.int .i64 j) (h22_0:e.at 22=V.int .i64 y) (h115_0:e.at 115=V.isl (g.map enc)) (h116_0:e.at 116=V.int .i64 (g.length:Int)) (h117_0:e.at 117=V.int .i64 0):
  W A (.block 8 (.loop true b171_5)) e h (fun x' e h=> x'= .normal∧(h.ents[kw]? =some (uW,some (s1.map enc))∧s1.length=m∧(∀k,k < E0.length→k≠kw→h.ents[k]? =E0[k]?)∧E0.length≤h.ents.length)∧e.length=168∧e.at 1=V.iptr [V.int .i64 x.Prime,V.isl (x.Dims.map enc),V.isl (x.Maps.map enc)]∧e.at 2=V.ptr 1 1 0∧e.at 3=V.ptr 2 2 0∧e.at 4=V.int .i64 x.Prime∧e.at 30=V.int .i64 (x.Dims.length:Int)∧e.at 31=V.int .i64 n∧e.at 5=V.int .i64 n∧e.at 6=v6∧e.at 7=V.isl (fr.map enc)∧e.at 11=V.isl (sr.a.map enc)∧e.at 12=V.isl (sr.b.map enc)∧e.at 76=V.isl (us.map enc)∧e.at 77=V.int .i64 (us.length:Int)∧e.at 13=v13∧e.at 14=v14∧e.at 78=V.int .i64 i∧e.at 20=V.sl kw uW 0 m 1∧e.at 105=V.isl (cs.map enc)∧e.at 106=V.int .i64 (cs.length:Int)∧e.at 107=V.int .i64 j):=by
 rw[ql];refine qq hF _ rfl (fun q s e h=>(h.ents[kw]? =some (uW,some (s.map enc))∧s.length=m∧(∀k,k < E0.length→k≠kw→h.ents[k]? =E0[k]?)∧E0.length≤h.ents.length)∧e.length=168∧e.at 1=V.iptr [V.int .i64 x.Prime,V.isl (x.Dims.map enc),V.isl (x.Maps.map enc)]∧e.at 2=V.ptr 1 1 0∧e.at 3=V.ptr 2 2 0∧e.at 4=V.int .i64 x.Prime∧e.at 30=V.int .i64 (x.Dims.length:Int)∧e.at 31=V.int .i64 n∧e.at 5=V.int .i64 n∧e.at 6=v6∧e.at 7=V.isl (fr.map enc)∧e.at 11=V.isl (sr.a.map enc)∧e.at 12=V.isl (sr.b.map enc)∧e.at 76=V.isl (us.map enc)∧e.at 77=V.int .i64 (us.length:Int)∧e.at 13=v13∧e.at 14=v14∧e.at 78=V.int .i64 i∧e.at 20=V.sl kw uW 0 m 1∧e.at 105=V.isl (cs.map enc)∧e.at 106=V.int .i64 (cs.length:Int)∧e.at 107=V.int .i64 j∧e.at 22=V.int .i64 y∧e.at 115=V.isl (g.map enc)∧e.at 116=V.int .i64 (g.length:Int)∧e.at 117=V.int .i64 q) ⟨hH,hl_0,h1_0,h2_0,h3_0,h4_0,h30_0,h31_0,h5_0,h6_0,h7_0,h11_0,h12_0,h76_0,h77_0,h13_0,h14_0,h78_0,h20_0,h105_0,h106_0,h107_0,h22_0,h115_0,h116_0,h117_0⟩ ?_ ?_
 ·clear hH hl_0 h1_0 h2_0 h3_0 h4_0 h30_0 h31_0 h5_0 h6_0 h7_0 h11_0 h12_0 h76_0 h77_0 h13_0 h14_0 h78_0 h20_0 h105_0 h106_0 h107_0 h22_0 h115_0 h116_0 h117_0
  rintro q s e ⟨E,c⟩ ⟨⟨g1,rfl,g2,g3⟩,h_1⟩ hlt hw o ho;simp only at g1 g2 g3;unfold F171_5_B at ho;obtain⟨a,ga,ho⟩:=bS ho;obtain⟨wa1,wa2⟩:=qm ga;obtain⟨t,gt,ho⟩:=bS ho;obtain⟨wt1,wt2⟩:=qm gt;obtain⟨b,gb,ho⟩:=bS ho;obtain⟨wb1,wb2⟩:=qm gb;have wb3:=qM gb;obtain⟨p,gp,ho⟩:=bS ho;have wp:=qx gp;obtain⟨d,gd,ho⟩:=bS ho;have wd:=qx gd;obtain⟨z,gz,ho⟩:=bS ho;obtain⟨wz0,wz⟩:=rem_w gz;obtain⟨s',gs,ho⟩:=bS ho;obtain⟨q1,q2,q3,q4,q5⟩:=setI_w gs;cases ho;have o3:qB none (List.drop t.toNat (s.map enc))=some (V.int .i64 b):=qz (by rw[List.getElem?_map,wb2]; rfl);have q5':List.take t.toNat (s.map enc)++[V.int .i64 z]++List.drop (t.toNat+1) (s.map enc)=List.map enc s':=q5;simp only[simprocAttr,R0,b171_5,h_1,eq_true hlt,hw,wa1,wa2,wt1,wt2,wb1,eq_true wb3,g1,o3,wp,wd,wz0,wz,q3,q5'];have hWE:kw < E.length:=by omega
  refine ai rfl (ai ⟨qt hWE,q4,fun k a b=>(qC b).trans (g2 k a b),by simp; omega⟩ ?_);simp only[simprocAttr,R0,h_1,hw]
 ·clear hH hl_0 h1_0 h2_0 h3_0 h4_0 h30_0 h31_0 h5_0 h6_0 h7_0 h11_0 h12_0 h76_0 h77_0 h13_0 h14_0 h78_0 h20_0 h105_0 h106_0 h107_0 h22_0 h115_0 h116_0 h117_0
  rintro q s e ⟨E,c⟩ ⟨⟨g1,g0,g2,g3⟩,h_1⟩ hge t1 ho;unfold F171_5_D at ho;cases ho;simp only[simprocAttr,R0,b171_5,h_1,eq_false hge];intro ht; subst ht;exact⟨g1,g0,g2,g3⟩
theorem l171_4(x:qh)(o2 o3 o4:List (List (List Int)))(n:Int)(hs:List (List Int))(fr:List Int)(sr:T2 (List (List Int)) (List (List Int)))(us:List (List Int))(o8:List (List Int))(i:Int)(c1:List Int)(l7:List (List Int))(cs:List Int){s0 s1:List Int}{kw uW m:Nat}{v6 v13 v14:V}{E0:List (Nat×Option (List V))}(hW:kw < E0.length)(hF:forR 0 (cs.length:Int) (F171_4_B x o2 o3 o4 n hs fr sr us o8 i c1 l7 cs) (F171_4_D x o2 o3 o4 n hs fr sr us o8 i c1 l7 cs) s0=some s1){e:Env}{h:Heap}(hH:h.ents[kw]? =some (uW,some (s0.map enc))∧s0.length=m∧(∀k,k < E0.length→k≠kw→h.ents[k]? =E0[k]?)∧E0.length≤h.ents.length)
  (hl_0:e.length=168) (h1_0:e.at 1=V.iptr [V.int .i64 x.Prime,V.isl (x.Dims.map enc),V.isl (x.Maps.map enc)]) (h2_0:e.at 2=V.ptr 1 1 0) (h3_0:e.at 3=V.ptr 2 2 0) (h4_0:e.at 4=V.int .i64 x.Prime) (h30_0:e.at 30=V.int .i64 (x.Dims.length:Int)) (h31_0:e.at 31=V.int .i64 n) (h5_0:e.at 5=V.int .i64 n) (h6_0:e.at 6=v6) (h7_0:e.at 7=V.isl (fr.map enc)) (h11_0:e.at 11=V.isl (sr.a.map enc)) (h12_0:e.at 12=V.isl (sr.b.map enc)) (h76_0:e.at 76=V.isl (us.map enc)) (h77_0:e.at 77=V.int .i64 (us.length:Int)) (h13_0:e.at 13=v13) (h14_0:e.at 14=v14) (h78_0:e.at 78=V.int .i64 i) (h20_0:e.at 20=V.sl kw uW 0 m 1) (h105_0:e.at 105=V.isl (cs.map enc)) (h106_0:e.at 106=V.int .i64 (cs.length:Int)) (h107_0:e.at 107=V.int .i64 0):
  W A (.block 6 (.loop true b171_4)) e h (fun x' e h=> x'= .normal∧(h.ents[kw]? =some (uW,some (s1.map enc))∧s1.length=m∧(∀k,k < E0.length→k≠kw→h.ents[k]? =E0[k]?)∧E0.length≤h.ents.length)∧e.length=168∧e.at 1=V.iptr [V.int .i64 x.Prime,V.isl (x.Dims.map enc),V.isl (x.Maps.map enc)]∧e.at 2=V.ptr 1 1 0∧e.at 3=V.ptr 2 2 0∧e.at 4=V.int .i64 x.Prime∧e.at 30=V.int .i64 (x.Dims.length:Int)∧e.at 31=V.int .i64 n∧e.at 5=V.int .i64 n∧e.at 6=v6∧e.at 7=V.isl (fr.map enc)∧e.at 11=V.isl (sr.a.map enc)∧e.at 12=V.isl (sr.b.map enc)∧e.at 76=V.isl (us.map enc)∧e.at 77=V.int .i64 (us.length:Int)∧e.at 13=v13∧e.at 14=v14∧e.at 78=V.int .i64 i∧e.at 20=V.sl kw uW 0 m 1):=by
 rw[ql];refine qq hF _ rfl (fun j s e h=>(h.ents[kw]? =some (uW,some (s.map enc))∧s.length=m∧(∀k,k < E0.length→k≠kw→h.ents[k]? =E0[k]?)∧E0.length≤h.ents.length)∧e.length=168∧e.at 1=V.iptr [V.int .i64 x.Prime,V.isl (x.Dims.map enc),V.isl (x.Maps.map enc)]∧e.at 2=V.ptr 1 1 0∧e.at 3=V.ptr 2 2 0∧e.at 4=V.int .i64 x.Prime∧e.at 30=V.int .i64 (x.Dims.length:Int)∧e.at 31=V.int .i64 n∧e.at 5=V.int .i64 n∧e.at 6=v6∧e.at 7=V.isl (fr.map enc)∧e.at 11=V.isl (sr.a.map enc)∧e.at 12=V.isl (sr.b.map enc)∧e.at 76=V.isl (us.map enc)∧e.at 77=V.int .i64 (us.length:Int)∧e.at 13=v13∧e.at 14=v14∧e.at 78=V.int .i64 i∧e.at 20=V.sl kw uW 0 m 1∧e.at 105=V.isl (cs.map enc)∧e.at 106=V.int .i64 (cs.length:Int)∧e.at 107=V.int .i64 j) ⟨hH,hl_0,h1_0,h2_0,h3_0,h4_0,h30_0,h31_0,h5_0,h6_0,h7_0,h11_0,h12_0,h76_0,h77_0,h13_0,h14_0,h78_0,h20_0,h105_0,h106_0,h107_0⟩ ?_ ?_
 ·clear hH hl_0 h1_0 h2_0 h3_0 h4_0 h30_0 h31_0 h5_0 h6_0 h7_0 h11_0 h12_0 h76_0 h77_0 h13_0 h14_0 h78_0 h20_0 h105_0 h106_0 h107_0
  rintro j s e ⟨E,c⟩ ⟨hH,h_1⟩ hlt hw o ho;unfold F171_4_B at ho;obtain⟨y,gy,ho⟩:=bS ho;obtain⟨wy1,wy2⟩:=qm gy;obtain⟨g,gg,ho⟩:=bS ho;obtain⟨wg1,wg2⟩:=qm gg;obtain⟨s2,g2,ho⟩:=bS ho;cases ho;simp only[simprocAttr,R0,b171_4,h_1,eq_true hlt,hw,wy1,wy2,wg1,wg2];refine W.mono (l171_5 x o2 o3 o4 n hs fr sr us o8 i c1 l7 cs j y g (v6:=v6) (v13:=v13) (v14:=v14) hW g2 (h:=⟨E,c⟩) hH ?_ ?_ ?_ ?_ ?_ ?_ ?_ ?_ ?_ ?_ ?_ ?_ ?_ ?_ ?_ ?_ ?_ ?_ ?_ ?_ ?_ ?_ ?_ ?_ ?_) ?_
  rotate_right
  ·rintro _ e ⟨E2,q2⟩ ⟨rfl,hH2,h_2⟩
   simp only[simprocAttr,R0,h_2,hw];refine ai rfl (ai hH2 ?_);simp only[simprocAttr,R0,h_2,hw]
  all_goals simp only[simprocAttr,R0,h_1]
 ·clear hH hl_0 h1_0 h2_0 h3_0 h4_0 h30_0 h31_0 h5_0 h6_0 h7_0 h11_0 h12_0 h76_0 h77_0 h13_0 h14_0 h78_0 h20_0 h105_0 h106_0 h107_0
  rintro j s e ⟨E,c⟩ ⟨hH,h_1⟩ hge t1 ho;unfold F171_4_D at ho;cases ho;simp only[simprocAttr,R0,b171_4,h_1,eq_false hge];intro ht; subst ht;exact hH
theorem l171_2(x:qh)(o2 o3 o4:List (List (List Int)))(n:Int)(hs:List (List Int))(fr:List Int){tb:List (List Int)}{v6:V}{E0:List (Nat×Option (List V))}{c0:Nat}(hF:forR 0 (fr.length:Int) (F171_2_B x o2 o3 o4 n hs fr) (F171_2_D x o2 o3 o4 n hs fr) ([]:List (List Int))=some tb){e:Env}(h8:e.at 8=V.sl E0.length c0 0 0 1)
  (hl_0:e.length=168) (h1_0:e.at 1=V.iptr [V.int .i64 x.Prime,V.isl (x.Dims.map enc),V.isl (x.Maps.map enc)]) (h2_0:e.at 2=V.ptr 1 1 0) (h3_0:e.at 3=V.ptr 2 2 0) (h4_0:e.at 4=V.int .i64 x.Prime) (h30_0:e.at 30=V.int .i64 (x.Dims.length:Int)) (h31_0:e.at 31=V.int .i64 n) (h5_0:e.at 5=V.int .i64 n) (h6_0:e.at 6=v6) (h7_0:e.at 7=V.isl (fr.map enc)) (h42_0:e.at 42=V.isl (fr.map enc)) (h43_0:e.at 43=V.int .i64 (fr.length:Int)) (h44_0:e.at 44=V.int .i64 0):
  W A (.block 2 (.loop true b171_2)) e ⟨E0++[(c0,some [])],c0+1⟩ (fun x' e h=> x'= .normal∧((∃u,h.ents[E0.length]? =some (u,some (tb.map enc))∧e.at 8=V.sl E0.length u 0 tb.length 1)∧(∀k,k < E0.length→h.ents[k]? =E0[k]?)∧E0.length < h.ents.length)∧e.length=168∧e.at 1=V.iptr [V.int .i64 x.Prime,V.isl (x.Dims.map enc),V.isl (x.Maps.map enc)]∧e.at 2=V.ptr 1 1 0∧e.at 3=V.ptr 2 2 0∧e.at 4=V.int .i64 x.Prime∧e.at 30=V.int .i64 (x.Dims.length:Int)∧e.at 31=V.int .i64 n∧e.at 5=V.int .i64 n∧e.at 6=v6∧e.at 7=V.isl (fr.map enc)):=by
 rw[ql];refine qq hF _ rfl (fun i s e h=>((∃u,h.ents[E0.length]? =some (u,some (s.map enc))∧e.at 8=V.sl E0.length u 0 s.length 1)∧(∀k,k < E0.length→h.ents[k]? =E0[k]?)∧E0.length < h.ents.length)∧e.length=168∧e.at 1=V.iptr [V.int .i64 x.Prime,V.isl (x.Dims.map enc),V.isl (x.Maps.map enc)]∧e.at 2=V.ptr 1 1 0∧e.at 3=V.ptr 2 2 0∧e.at 4=V.int .i64 x.Prime∧e.at 30=V.int .i64 (x.Dims.length:Int)∧e.at 31=V.int .i64 n∧e.at 5=V.int .i64 n∧e.at 6=v6∧e.at 7=V.isl (fr.map enc)∧e.at 42=V.isl (fr.map enc)∧e.at 43=V.int .i64 (fr.length:Int)∧e.at 44=V.int .i64 i) ⟨⟨⟨c0,qy _ _,h8⟩,fun k q=> List.getElem?_append_left q,by simp⟩,hl_0,h1_0,h2_0,h3_0,h4_0,h30_0,h31_0,h5_0,h6_0,h7_0,h42_0,h43_0,h44_0⟩ ?_ ?_
 ·clear h8 hl_0 h1_0 h2_0 h3_0 h4_0 h30_0 h31_0 h5_0 h6_0 h7_0 h42_0 h43_0 h44_0
  rintro i s e ⟨E,c⟩ ⟨⟨⟨u,g1,h8_1⟩,g2,g3⟩,hl_1,h1_1,h2_1,h3_1,h4_1,h30_1,h31_1,h5_1,h6_1,h7_1,h42_1,h43_1,h44_1⟩ hlt hw o ho;simp only at g1 g2 g3;unfold F171_2_B at ho;obtain⟨t,gt,ho⟩:=bS ho;obtain⟨wt1,wt2⟩:=qm gt;obtain⟨n1,gn,ho⟩:=bS ho;have wn:=qx gn;obtain⟨d,gd,ho⟩:=bS ho;have wd:ans A 102 [(eC x),V.int .i64 n1]=some (V.int .i64 d):=s102 x n1 gd;obtain⟨uu,gu,ho⟩:=bS ho;have wu:ans A 132 [V.int .i64 d,V.int .i64 t]=some (V.isl (uu.map enc)):=s132 d t gu;obtain⟨w,gw,ho⟩:=bS ho;have ww:ans A 91 [(eC x),V.int .i64 n1,V.isl (uu.map enc)]=some (V.isl (w.map enc)):=s91 x n1 uu gw;obtain⟨l2,gl2,ho⟩:=bS ho;have hE:=wB ho; subst hE;have g1':(E++[(c,some [V.isl (w.map enc)])])[E0.length]? =some (u,some (s.map enc)):=(List.getElem?_append_left g3).trans g1;have wap:=qE (α:=List Int) (n:=s.length) (m:=1) (ds:=[V.isl (w.map enc)]) gl2 rfl rfl rfl (E++[(c,some [V.isl (w.map enc)])]) E0.length u (c+1) g1';simp only[simprocAttr, -Int.reduceNatCast',R0,b171_2,hl_1,h1_1,h2_1,h3_1,h4_1,h30_1,h31_1,h5_1,h6_1,h7_1,h42_1,h43_1,h44_1,h8_1,eq_true hlt,hw,wt1,wt2,wn,wd,wu,ww,qy,wap];refine ai rfl ?_;simp only[simprocAttr, -Int.reduceNatCast',R0,hl_1,h1_1,h2_1,h3_1,h4_1,h30_1,h31_1,h5_1,h6_1,h7_1,h42_1,h43_1,h44_1,h8_1,hw];exact⟨⟨_,qt (by simp; omega),rfl⟩,fun k q=>(qC (by omega)).trans ((List.getElem?_append_left (by omega)).trans (g2 k q)),by simp; omega⟩
 ·clear h8 hl_0 h1_0 h2_0 h3_0 h4_0 h30_0 h31_0 h5_0 h6_0 h7_0 h42_0 h43_0 h44_0
  rintro i s e ⟨E,c⟩ ⟨⟨⟨u,g1,h8_1⟩,g2,g3⟩,hl_1,h1_1,h2_1,h3_1,h4_1,h30_1,h31_1,h5_1,h6_1,h7_1,h42_1,h43_1,h44_1⟩ hge t1 ho;unfold F171_2_D at ho;have hE:=wB ho; subst hE;simp only[simprocAttr, -Int.reduceNatCast',R0,b171_2,hl_1,h1_1,h2_1,h3_1,h4_1,h30_1,h31_1,h5_1,h6_1,h7_1,h42_1,h43_1,h44_1,h8_1,eq_false hge];intro ht; subst ht;exact⟨⟨u,g1,rfl⟩,g2,g3⟩
theorem l171_3(x:qh)(o2 o3 o4:List (List (List Int)))(n:Int)(hs:List (List Int))(fr:List Int)(sr:T2 (List (List Int)) (List (List Int)))(us:List (List Int)){v6:V}{K6:Ks}{E0:List (Nat×Option (List V))}(h6:Deep.rep ⟨E0,0⟩ v6 hs K6){f7 f8:List (List Int)}(hF:forR 0 (us.length:Int) (F171_3_B x o2 o3 o4 n hs fr sr us) (F171_3_D x o2 o3 o4 n hs fr sr us) (([],[]):List (List Int)×List (List Int))=some (f7,f8)){e:Env}{h:Heap}(hH:(∃v13 v14,∃K7 K8:Ks,Deep.rep h v13 ([]:List (List Int)) K7∧Deep.rep h v14 ([]:List (List Int)) K8∧(∀k,K7 k→¬K8 k)∧(∀k,K7 k→E0.length≤k)∧(∀k,K8 k→E0.length≤k)∧e.at 13=v13∧e.at 14=v14)∧(∀k,k < E0.length→h.ents[k]? =E0[k]?)∧E0.length≤h.ents.length)
  (hl_0:e.length=168) (h1_0:e.at 1=V.iptr [V.int .i64 x.Prime,V.isl (x.Dims.map enc),V.isl (x.Maps.map enc)]) (h2_0:e.at 2=V.ptr 1 1 0) (h3_0:e.at 3=V.ptr 2 2 0) (h4_0:e.at 4=V.int .i64 x.Prime) (h30_0:e.at 30=V.int .i64 (x.Dims.length:Int)) (h31_0:e.at 31=V.int .i64 n) (h5_0:e.at 5=V.int .i64 n) (h6_0:e.at 6=v6) (h7_0:e.at 7=V.isl (fr.map enc)) (h11_0:e.at 11=V.isl (sr.a.map enc)) (h12_0:e.at 12=V.isl (sr.b.map enc)) (h76_0:e.at 76=V.isl (us.map enc)) (h77_0:e.at 77=V.int .i64 (us.length:Int)) (h78_0:e.at 78=V.int .i64 0):
  W A (.block 4 (.loop true b171_3)) e h (fun x' e h=> x'= .normal∧((∃v13 v14,∃K7 K8:Ks,Deep.rep h v13 f7 K7∧Deep.rep h v14 f8 K8∧(∀k,K7 k→¬K8 k)∧(∀k,K7 k→E0.length≤k)∧(∀k,K8 k→E0.length≤k)∧e.at 13=v13∧e.at 14=v14)∧(∀k,k < E0.length→h.ents[k]? =E0[k]?)∧E0.length≤h.ents.length)∧e.length=168∧e.at 1=V.iptr [V.int .i64 x.Prime,V.isl (x.Dims.map enc),V.isl (x.Maps.map enc)]∧e.at 2=V.ptr 1 1 0∧e.at 3=V.ptr 2 2 0∧e.at 4=V.int .i64 x.Prime∧e.at 30=V.int .i64 (x.Dims.length:Int)∧e.at 31=V.int .i64 n∧e.at 5=V.int .i64 n∧e.at 6=v6∧e.at 7=V.isl (fr.map enc)):=by
 rw[ql];refine qq hF _ rfl (fun i s e h=>((∃v13 v14,∃K7 K8:Ks,Deep.rep h v13 s.1 K7∧Deep.rep h v14 s.2 K8∧(∀k,K7 k→¬K8 k)∧(∀k,K7 k→E0.length≤k)∧(∀k,K8 k→E0.length≤k)∧e.at 13=v13∧e.at 14=v14)∧(∀k,k < E0.length→h.ents[k]? =E0[k]?)∧E0.length≤h.ents.length)∧e.length=168∧e.at 1=V.iptr [V.int .i64 x.Prime,V.isl (x.Dims.map enc),V.isl (x.Maps.map enc)]∧e.at 2=V.ptr 1 1 0∧e.at 3=V.ptr 2 2 0∧e.at 4=V.int .i64 x.Prime∧e.at 30=V.int .i64 (x.Dims.length:Int)∧e.at 31=V.int .i64 n∧e.at 5=V.int .i64 n∧e.at 6=v6∧e.at 7=V.isl (fr.map enc)∧e.at 11=V.isl (sr.a.map enc)∧e.at 12=V.isl (sr.b.map enc)∧e.at 76=V.isl (us.map enc)∧e.at 77=V.int .i64 (us.length:Int)∧e.at 78=V.int .i64 i) ⟨hH,hl_0,h1_0,h2_0,h3_0,h4_0,h30_0,h31_0,h5_0,h6_0,h7_0,h11_0,h12_0,h76_0,h77_0,h78_0⟩ ?_ ?_
 ·clear hH hl_0 h1_0 h2_0 h3_0 h4_0 h30_0 h31_0 h5_0 h6_0 h7_0 h11_0 h12_0 h76_0 h77_0 h78_0
  rintro i ⟨o7,o8⟩ e ⟨E,c⟩ ⟨⟨⟨v13,v14,K7,K8,r7,r8,d1,d2,d3,h13_1,h14_1⟩,g2,g3⟩,hl_1,h1_1,h2_1,h3_1,h4_1,h30_1,h31_1,h5_1,h6_1,h7_1,h11_1,h12_1,h76_1,h77_1,h78_1⟩ hlt hw o ho;simp only at g2 g3 r7 r8;unfold F171_3_B at ho;dsimp only at ho;obtain⟨u,gu,ho⟩:=bS ho;obtain⟨wu1,wu2⟩:=qm gu;obtain⟨sp,gp,ho⟩:=bS ho;have wp:ans A 191 [(eC x),V.int .i64 n,V.isl (u.map enc)]=some (V.tup [V.isl (sp.a.map enc),V.isl (sp.b.map enc),V.isl (sp.c.map enc)]):=s191 x n u gp;obtain⟨c1,gc,ho⟩:=bS ho;have wc:tans A 188 [1] [V.int .i64 x.Prime,V.isl (sp.b.map enc),V.isl (hs.map enc),V.isl []]=some (V.isl (c1.map enc)):=t188 x.Prime sp.b hs [] gc;obtain⟨l7,gl7,ho⟩:=bS ho;obtain⟨n1,gn,ho⟩:=bS ho;have wn:=qx gn;obtain⟨d,gd,ho⟩:=bS ho;have wd:ans A 102 [(eC x),V.int .i64 n1]=some (V.int .i64 d):=s102 x n1 gd;obtain⟨m0,gm,ho⟩:=bS ho;obtain⟨m1,m2,m3,m4,m5⟩:=mkL_w gm;replace m5:(List.replicate (Int.toNat d) [V.int .i64 0]).flatten=List.map enc m0:=m5;obtain⟨cs,gcs,ho⟩:=bS ho;have wcs:ans A 188 [V.int .i64 x.Prime,V.isl (sp.a.map enc),V.isl (sr.a.map enc),V.isl []]=some (V.isl (cs.map enc)):=s188 x.Prime sp.a sr.a [] gcs;obtain⟨wh,gwh,ho⟩:=bS ho;obtain⟨l8,gl8,ho⟩:=bS ho;have hE:=wB ho; subst hE;have f6:∀ (E':List (Nat×Option (List V))) c',(∀k,k < E0.length→E'[k]? =E0[k]?)→Deep.rep ⟨E',c'⟩ v6 hs K6:=fun E' c' hk=> Deep.frame h6 fun k q=> hk k (Deep.bd h6 q);have z6:frz ⟨E,c⟩ 16 v6=some (V.isl (hs.map enc)):=Deep.fz (f6 E c g2) 10;have wb:bare 16 [1] (V.isl (c1.map enc))=true:=bare_one (α:=Int) c1;have pre1:∀k,k < E.length→(E++[(c,some (c1.map enc))]++[(c+1,some [V.sl E.length c 0 c1.length 1])])[k]? =E[k]?:=fun k q=> by
   rw[wT]; exact List.getElem?_append_left q
  have b7:∀k,K7 k→k < E.length:=fun k q=> Deep.bd r7 q;have b8:∀k,K8 k→k < E.length:=fun k q=> Deep.bd r8 q;obtain⟨w13,E',c',K7',p1,p2,p3,p4,p5⟩:=zn (E:=E++[(c,some (c1.map enc))]++[(c+1,some [V.sl E.length c 0 c1.length 1])]) (c:=c+1+1) (Deep.frame r7 fun k q=> pre1 k (b7 k q)) (x:=V.sl E.length c 0 c1.length 1) (a:=c1) (K1:=fun k=> k=E.length) (zh (ge2a _ _ _) fun k=> vU) (fun k q z=> by have:=b7 k q; omega) gl7;simp only[wH,wK,wJ,wV]at p3 p4 p5;have q7:∀k,K7' k→K7 k∨E.length≤k:=fun k q=> by
   rcases p3 k q with h|h|h
   ·exact .inl h
   ·exact .inr (by omega)
   ·exact .inr (by omega)
  have old1:∀k,k < E.length→¬K7 k→E'[k]? =E[k]?:=fun k a b=>(p4 k (by omega) b).trans (pre1 k a);simp only[simprocAttr, -Int.reduceNatCast',R0,b171_3,hl_1,h1_1,h2_1,h3_1,h4_1,h30_1,h31_1,h5_1,h6_1,h7_1,h11_1,h12_1,h76_1,h77_1,h78_1,h13_1,h14_1,eq_true hlt,hw,wu1,wu2,wp,z6,wc,wb,qK,qY,qy,p1,wn,wd,m1,m2,m3,m5,wcs];have bE':∀k,k < E'.length→(E'++[(c',some (m0.map enc))])[k]? =E'[k]?:=fun k q=> List.getElem?_append_left q;refine W.mono (l171_4 x o2 o3 o4 n hs fr sr us o8 i c1 l7 cs (kw:=E'.length) (uW:=c') (m:=m0.length) (v6:=v6) (v13:=w13) (v14:=v14) (E0:=E'++[(c',some (m0.map enc))]) (by simp) gwh (h:=⟨E'++[(c',some (m0.map enc))],c'+1⟩) ⟨qy _ _,rfl,fun _ _ _=> rfl,wG _⟩ ?_ ?_ ?_ ?_ ?_ ?_ ?_ ?_ ?_ ?_ ?_ ?_ ?_ ?_ ?_ ?_ ?_ ?_ ?_ ?_ ?_) ?_
  rotate_right
  ·rintro _ e ⟨E2,q2⟩ ⟨rfl,⟨s1,s2,s3,s4⟩,hl_2,h1_2,h2_2,h3_2,h4_2,h30_2,h31_2,h5_2,h6_2,h7_2,h11_2,h12_2,h76_2,h77_2,h13_2,h14_2,h78_2,h20_2⟩
   simp only[wH,wK,wJ,wV]at s1 s3 s4;have old2:∀k,k < E'.length→E2[k]? =E'[k]?:=fun k q=>(s3 k (by omega) (by omega)).trans (bE' k q);have pre3:∀y k,k < E2.length→(E2++[y])[k]? =E2[k]?:=fun y k q=> List.getElem?_append_left q;have r8':Deep.rep ⟨E2++[(q2,some [V.sl E'.length c' 0 m0.length 1])],q2+1⟩ v14 o8 K8:=Deep.frame r8 fun k q=>(pre3 _ k (by have:=b8 k q; omega)).trans ((old2 k (by have:=b8 k q; omega)).trans (old1 k (b8 k q) (fun z=> d1 k z q)));have rw8:Deep.rep ⟨E2++[(q2,some [V.sl E'.length c' 0 m0.length 1])],q2+1⟩ (V.sl E'.length c' 0 m0.length 1) wh (fun k=> k=E'.length):=by
    rw[←s2]; exact zh ((pre3 _ _ (by omega)).trans s1) fun k=> vU
   obtain⟨w14,E4,c4,K8',t1,t2,t3,t4,t5⟩:=zn r8' rw8 (fun k q z=> by have:=b8 k q; omega) gl8;simp only[wH,wK,wJ,wV]at t3 t4 t5;simp only[simprocAttr, -Int.reduceNatCast',R0,hl_2,h1_2,h2_2,h3_2,h4_2,h30_2,h31_2,h5_2,h6_2,h7_2,h11_2,h12_2,h76_2,h77_2,h13_2,h14_2,h78_2,h20_2,hw,qy,t1];have b7':∀k,K7' k→k < E'.length:=fun k q=> Deep.bd p2 q;have r7':Deep.rep ⟨E4,c4⟩ w13 l7 K7':=Deep.frame p2 fun k q=>(t4 k (by have:=b7' k q; omega) (fun z=> by
    rcases q7 k q with h|h
    ·exact d1 k h z
    ·have:=b8 k z; omega)).trans ((pre3 _ k (by have:=b7' k q; omega)).trans (old2 k (b7' k q)))
   refine ai rfl (ai ⟨⟨w13,w14,K7',K8',r7',t2,fun k q z=>?_,fun k q=>?_,fun k q=>?_,?_,?_⟩,fun k q=>?_,?_⟩ ?_)
   ·rcases t3 k z with h|h|h
    ·rcases q7 k q with h1|h1
     ·exact d1 k h1 h
     ·have:=b8 k h; omega
    ·have:=b7' k q; omega
    ·have:=b7' k q; omega
   ·rcases q7 k q with h1|h1
    ·exact d2 k h1
    ·omega
   ·rcases t3 k q with h|h|h
    ·exact d3 k h
    ·omega
    ·omega
   ·simp only[simprocAttr, -Int.reduceNatCast',R0,hl_2,h1_2,h2_2,h3_2,h4_2,h30_2,h31_2,h5_2,h6_2,h7_2,h11_2,h12_2,h76_2,h77_2,h13_2,h14_2,h78_2,h20_2,hw]
   ·simp only[simprocAttr, -Int.reduceNatCast',R0,hl_2,h1_2,h2_2,h3_2,h4_2,h30_2,h31_2,h5_2,h6_2,h7_2,h11_2,h12_2,h76_2,h77_2,h13_2,h14_2,h78_2,h20_2,hw]
   ·have nk8:¬K8 k:=fun z=> by have:=d3 k z; omega
    have nk7:¬K7 k:=fun z=> by have:=d2 k z; omega
    exact(t4 k (by omega) nk8).trans ((pre3 _ k (by omega)).trans ((old2 k (by omega)).trans ((old1 k (by omega) nk7).trans (g2 k q))))
   ·show E0.length≤E4.length; omega
   ·simp only[simprocAttr, -Int.reduceNatCast',R0,hl_2,h1_2,h2_2,h3_2,h4_2,h30_2,h31_2,h5_2,h6_2,h7_2,h11_2,h12_2,h76_2,h77_2,h13_2,h14_2,h78_2,h20_2,hw]
  all_goals simp only[simprocAttr, -Int.reduceNatCast',R0,hl_1,h1_1,h2_1,h3_1,h4_1,h30_1,h31_1,h5_1,h6_1,h7_1,h11_1,h12_1,h76_1,h77_1,h78_1,h13_1,h14_1,m4]
 ·clear hH hl_0 h1_0 h2_0 h3_0 h4_0 h30_0 h31_0 h5_0 h6_0 h7_0 h11_0 h12_0 h76_0 h77_0 h78_0
  rintro i ⟨o7,o8⟩ e ⟨E,c⟩ ⟨⟨⟨v13,v14,K7,K8,r7,r8,d1,d2,d3,h13_1,h14_1⟩,g2,g3⟩,hl_1,h1_1,h2_1,h3_1,h4_1,h30_1,h31_1,h5_1,h6_1,h7_1,h11_1,h12_1,h76_1,h77_1,h78_1⟩ hge t1 ho;unfold F171_3_D at ho;dsimp only at ho;have hE:=wB ho; subst hE;simp only[simprocAttr, -Int.reduceNatCast',R0,b171_3,hl_1,h1_1,h2_1,h3_1,h4_1,h30_1,h31_1,h5_1,h6_1,h7_1,h11_1,h12_1,h76_1,h77_1,h78_1,h13_1,h14_1,eq_false hge];intro ht;obtain⟨rfl,rfl⟩:=yQ ht;exact⟨⟨v13,v14,K7,K8,r7,r8,d1,d2,d3,rfl,rfl⟩,g2,g3⟩
theorem rec3171{α β γ:Type}[Enc α][Deep α][Enc β][Deep β][Enc γ][Deep γ]{h:Heap}{a:α}{b:β}{c:γ}{u v w:V}{K1 K2 K3:Ks}(h1:Deep.rep h u a K1)(h2:Deep.rep h v b K2)(h3:Deep.rep h w c K3)(d1:∀k,K1 k→¬K2 k)(d2:∀k,K1 k→¬K3 k)(d3:∀k,K2 k→¬K3 k):
  repF h [u,v,w] [⟨a⟩,⟨b⟩,⟨c⟩] (fun k=> K1 k∨K2 k∨K3 k):=
 repF_cons h1 (repF_cons h2 (repF_1 h3) d3) fun k x y=> y.elim (d1 k x) (d2 k x)
theorem un3171{α β γ:Type}[Enc α][Deep α][Enc β][Deep β][Enc γ][Deep γ]{h:Heap}{u v w:V}{a:α}{b:β}{c:γ}{K:Ks}(r:repF h [u,v,w] [⟨a⟩,⟨b⟩,⟨c⟩] K):∃K1 K2 K3:Ks,Deep.rep h u a K1∧Deep.rep h v b K2∧Deep.rep h w c K3∧
  (∀k,K1 k→¬K2 k)∧(∀k,K1 k→¬K3 k)∧(∀k,K2 k→¬K3 k)∧∀k,K k↔K1 k∨K2 k∨K3 k:=by
 obtain⟨u',ws',K1,J1,e1,h1,r2,h3,h4⟩:=jD r;obtain⟨rfl,rfl⟩:=List.cons.inj e1;obtain⟨v',ws2,K2,J2,e2,h5,r3,h6,h7⟩:=jD r2;obtain⟨rfl,rfl⟩:=List.cons.inj e2;obtain⟨w',e3,h8⟩:=repF_1un r3;obtain⟨rfl, -⟩:=List.cons.inj e3;exact⟨K1,K2,J2,h1,h5,h8,fun k x y=> h3 k x ((h7 k).2 (.inl y)),fun k x y=> h3 k x ((h7 k).2 (.inr y)),h6,fun k=> by rw[h4,h7]⟩
theorem tkis171(f:Nat)(h:Heap):∀tb:List (List Int),mapS (take (f+1) []) (tb.map enc) h=some (List.map enc tb,h)
 | []=> rfl
 |a::l=> by
  have e:take (f+1) [] (enc a) h=some (enc a,h):=rfl;simp only[wY,mapS,e,tkis171 f h l]
theorem tkT171{E:List (Nat×Option (List V))}{c key uid:Nat}{l:List (List Int)}(h:E[key]? =some (uid,some (l.map enc))):take 16 [] (.sl key uid 0 l.length 1) ⟨E,c⟩=some (.isl (l.map enc),⟨E.set key (0,none),c⟩):=by
 have hg:(Heap.mk E c).get key uid=some (l.map enc):=by simp[Heap.get,h]
 simp only[take,hg];rw[if_pos ⟨by simp,by decide,rfl⟩,vJ,vP,jA,show([]:List Nat).tail=[] from rfl,tkis171 14];simp[zS,Heap.kill]
theorem d171(x:qh){r:qj}(hF:F171 x=some r):∃v h',res A 171 [(eC x)] Heap.empty=some (v,h')∧∃K,Deep.rep h' v r K:=by
 refine je (f:=p171) rfl rfl rfl fun e hl he=>?_;have h0_0:e.at 0=(eC x):=he 0 _ rfl;have hl_0:e.length=168:=hl;clear he hl;show W A b171 e ⟨[],0⟩ _;unfold F171 at hF;obtain⟨⟨t1,t2,t3⟩,gt,hF⟩:=bS hF;dsimp only at hF;have hE:=wB hF; subst hE;have ws:ans A 73 [V.isl (x.Dims.map enc)]=some (V.int .i64 (x.Dims.length:Int)):=s73 x.Dims rfl;simp only[simprocAttr, -Int.reduceNatCast',R0,b171, *];refine W.mono (Q:=fun x' e h=> x'= .normal∧(∃v2 v3 v4,∃K:Ks,h.ents[1]? =some (1,some [V.nils,V.nils,V.nils])∧h.ents[2]? =some (2,some [v2,v3,v4])∧repF h [v2,v3,v4] [⟨(t1,t2,t3).1⟩,⟨(t1,t2,t3).2.1⟩,⟨(t1,t2,t3).2.2⟩] K∧∀k,K k→3≤k)∧e.length=168∧e.at 1=V.iptr [V.int .i64 x.Prime,V.isl (x.Dims.map enc),V.isl (x.Maps.map enc)]∧e.at 2=V.ptr 1 1 0∧e.at 3=V.ptr 2 2 0∧e.at 4=V.int .i64 x.Prime∧e.at 30=V.int .i64 (x.Dims.length:Int)) ?_ ?_
 ·show W A (.block 0 (.loop true b171_1)) _ _ _
  rw[ql];refine qq gt _ rfl (fun n s e h=>(∃v2 v3 v4,∃K:Ks,h.ents[1]? =some (1,some [V.nils,V.nils,V.nils])∧h.ents[2]? =some (2,some [v2,v3,v4])∧repF h [v2,v3,v4] [⟨s.1⟩,⟨s.2.1⟩,⟨s.2.2⟩] K∧∀k,K k→3≤k)∧e.length=168∧e.at 1=V.iptr [V.int .i64 x.Prime,V.isl (x.Dims.map enc),V.isl (x.Maps.map enc)]∧e.at 2=V.ptr 1 1 0∧e.at 3=V.ptr 2 2 0∧e.at 4=V.int .i64 x.Prime∧e.at 30=V.int .i64 (x.Dims.length:Int)∧e.at 31=V.int .i64 n) ?_ ?_ ?_
  ·refine ai ⟨V.nils,V.nils,V.nils,_,rfl,rfl,rec3171 (jn _) (jn _) (jn _) (fun _ x _=> x) (fun _ x _=> x) (fun _ x _=> x),fun k q=> by rcases q with q|q|q <;> exact q.elim⟩ ?_
   simp only[simprocAttr, -Int.reduceNatCast',R0, *]
  ·clear hl_0 h0_0
   rintro n ⟨o2,o3,o4⟩ e ⟨E,c⟩ ⟨⟨v2,v3,v4,K,g1,g2,r0,hk⟩,hl_1,h1_1,h2_1,h3_1,h4_1,h30_1,h31_1⟩ hlt hw o ho;simp only at g1 g2 r0;unfold F171_1_B at ho;dsimp only at ho;obtain⟨hs,gh,ho⟩:=bS ho;have wh:tans A 189 [1,1] [(eC x),V.int .i64 n]=some (V.isl (hs.map enc)):=x189 x n gh;obtain⟨fr,gf,ho⟩:=bS ho;have wf:ans A 63 [(eC x),V.int .i64 (n+1)]=some (V.isl (fr.map enc)):=s63 x (n+1) gf;obtain⟨tb,gtb,ho⟩:=bS ho;obtain⟨d,gd,ho⟩:=bS ho;have wd:ans A 102 [(eC x),V.int .i64 n]=some (V.int .i64 d):=s102 x n gd;obtain⟨sr,gsr,ho⟩:=bS ho;have wsr:ans A 190 [V.int .i64 x.Prime,V.int .i64 d,V.isl (tb.map enc)]=some (V.tup [V.isl (sr.a.map enc),V.isl (sr.b.map enc)]):=s190 x.Prime d tb gsr;obtain⟨us,gus,ho⟩:=bS ho;have wus:ans A 124 [V.int .i64 d]=some (V.isl (us.map enc)):=s124 d gus;obtain⟨⟨z7,z8⟩,g3,ho⟩:=bS ho;dsimp only at ho;obtain⟨l2,gl2,ho⟩:=bS ho;obtain⟨l3,gl3,ho⟩:=bS ho;obtain⟨l4,gl4,ho⟩:=bS ho;have hE:=wB ho; subst hE;obtain⟨v6,⟨E1,c1⟩,K6,t1,t2,t3,t4,t5⟩:=thawD (α:=List (List Int)) (by decide) hs ⟨E,c⟩;simp only at t3 t4 t5;have t1':thaw 16 [1,1] (V.isl (hs.map enc)) ⟨E,c⟩=some (v6,⟨E1,c1⟩):=t1;obtain⟨a1,a2⟩:=rep_one t2;simp only[simprocAttr, -Int.reduceNatCast',R0,b171_1,qK,t1', *];refine W.mono (l171_2 x o2 o3 o4 n hs fr (v6:=v6) (E0:=E1) (c0:=c1) gtb ?_ ?_ ?_ ?_ ?_ ?_ ?_ ?_ ?_ ?_ ?_ ?_ ?_ ?_) ?_
   rotate_right
   ·rintro _ e ⟨E2,c2⟩ ⟨rfl,⟨⟨u8,k1,h8_2⟩,k2,k3⟩,hl_2,h1_2,h2_2,h3_2,h4_2,h30_2,h31_2,h5_2,h6_2,h7_2⟩
    simp only at k1 k2 k3;obtain⟨F2,hF2⟩:∃F2,F2=E2.set E1.length (0,none):=⟨_,rfl⟩;have tk8:take 16 [] (V.sl E1.length u8 0 tb.length 1) ⟨E2,c2⟩=some (V.isl (tb.map enc),⟨F2,c2⟩):=by rw[hF2]; exact tkT171 k1
    have k2':∀k,k < E1.length→F2[k]? =E1[k]?:=fun k q=> by rw[hF2]; exact(qC (by omega)).trans (k2 k q)
    have k3':E1.length < F2.length:=by rw[hF2]; simpa using k3
    clear hF2 k1 k2 k3;simp only[simprocAttr, -Int.reduceNatCast',R0,tk8, *];have h6:Deep.rep ⟨F2,0⟩ v6 hs K6:=Deep.frame t2 fun k q=> k2' k (t3 k q).2;have hH:∀e:Env,e.at 13=V.sl F2.length c2 0 0 1→e.at 14=V.sl (F2.length+1) (c2+1) 0 0 1→(∃v13 v14,∃K7 K8:Ks,Deep.rep ⟨F2++[(c2,some [])]++[(c2+1,some [])],c2+1+1⟩ v13 ([]:List (List Int)) K7∧Deep.rep ⟨F2++[(c2,some [])]++[(c2+1,some [])],c2+1+1⟩ v14 ([]:List (List Int)) K8∧(∀k,K7 k→¬K8 k)∧(∀k,K7 k→F2.length≤k)∧(∀k,K8 k→F2.length≤k)∧e.at 13=v13∧e.at 14=v14)∧(∀k,k < F2.length→(F2++[(c2,some [])]++[(c2+1,some ([]:List V))])[k]? =F2[k]?)∧F2.length≤(F2++[(c2,some [])]++[(c2+1,some ([]:List V))]).length:=fun e e1 e2=>
     ⟨⟨_,_,_,_,rep_at (α:=List Int) (l:=[]) (K:=fun _=> False) (ge2a _ _ _) (fun _ x=> x) (fun x=> x),rep_at (α:=List Int) (l:=[]) (K:=fun _=> False) (ge2b _ _ _) (fun _ x=> x) (fun x=> x),fun k q z=> by rcases q with q|q <;> rcases z with z|z <;> first|exact q.elim|exact z.elim|omega,fun k q=> by rcases q with q|q <;> first|exact q.elim|omega,fun k q=> by rcases q with q|q <;> first|exact q.elim|omega,e1,e2⟩,fun k q=> by rw[wT]; exact List.getElem?_append_left q,by simp⟩
    refine W.mono (l171_3 x o2 o3 o4 n hs fr sr us (v6:=v6) (K6:=K6) (E0:=F2) h6 g3 (h:=⟨F2++[(c2,some [])]++[(c2+1,some [])],c2+1+1⟩) (hH _ ?_ ?_) ?_ ?_ ?_ ?_ ?_ ?_ ?_ ?_ ?_ ?_ ?_ ?_ ?_ ?_ ?_) ?_
    rotate_right
    ·rintro _ e ⟨E3,c3⟩ ⟨rfl,⟨⟨v13,v14,K7,K8,r7,r8,d1,d2,d3,h13_3,h14_3⟩,j2,j3⟩,hl_3,h1_3,h2_3,h3_3,h4_3,h30_3,h31_3,h5_3,h6_3,h7_3⟩
     simp only at j2 j3;obtain⟨K2,K3,K4,y2,y3,y4,e23,e24,e34,hK⟩:=un3171 r0;have bd2:∀k,K2 k→3≤k∧k < E.length:=fun k q=>⟨hk k ((hK k).2 (.inl q)),Deep.bd y2 q⟩;have bd3:∀k,K3 k→3≤k∧k < E.length:=fun k q=>⟨hk k ((hK k).2 (.inr (.inl q))),Deep.bd y3 q⟩;have bd4:∀k,K4 k→3≤k∧k < E.length:=fun k q=>⟨hk k ((hK k).2 (.inr (.inr q))),Deep.bd y4 q⟩;have bd7:∀k,K7 k→F2.length≤k∧k < E3.length:=fun k q=>⟨d2 k q,Deep.bd r7 q⟩;have bd8:∀k,K8 k→F2.length≤k∧k < E3.length:=fun k q=>⟨d3 k q,Deep.bd r8 q⟩;have hE2:2 < E.length:=(List.getElem?_eq_some_iff.1 g2).1;have old:∀k,k < E.length→E3[k]? =E[k]?:=fun k q=>(j2 k (by omega)).trans ((k2' k (by omega)).trans (t5 k q));have x1:=(old 1 (by omega)).trans g1;have x2:=(old 2 hE2).trans g2;have pre:∀k,k < E3.length→(E3++[(c3,some [v13])]++[(c3+1,some [v6])]++[(c3+1+1,some [v14])])[k]? =E3[k]?:=fun k q=> by
      rw[wT,wT]; exact List.getElem?_append_left q
     have hla:(E3++[(c3,some [v13])]++[(c3+1,some [v6])]++[(c3+1+1,some [v14])]).length=E3.length+3:=by simp
     obtain⟨w2,E5,c5,K2',p1,p2,p3,p4,p5⟩:=zn (E:=(E3++[(c3,some [v13])]++[(c3+1,some [v6])]++[(c3+1+1,some [v14])])) (c:=c3+1+1+1) (v:=v2) (K:=K2) (Deep.frame y2 fun k q=>(pre k (by have:=bd2 k q; omega)).trans (old k (bd2 k q).2)) (x:=v13) (K1:=K7) (Deep.frame r7 fun k q=> pre k (bd7 k q).2) (fun k q z=> by have:=bd2 k q; have:=bd7 k z; omega) gl2;rw[hla]at p3 p4 p5;have keep5:∀k,k < E3.length+3→¬K2 k→E5[k]? =(E3++[(c3,some [v13])]++[(c3+1,some [v6])]++[(c3+1+1,some [v14])])[k]?:=p4;obtain⟨w3,E6,c6,K3',s1,s2,s3,s4,s5⟩:=zn (E:=E5) (c:=c5) (v:=v3) (K:=K3) (Deep.frame y3 fun k q=>(keep5 k (by have:=bd3 k q; omega) (fun z=> e23 k z q)).trans ((pre k (by have:=bd3 k q; omega)).trans (old k (bd3 k q).2))) (x:=v6) (a:=hs) (K1:=K6) (Deep.frame h6 fun k q=>(keep5 k (by have:=t3 k q; omega) (fun z=> by have:=bd2 k z; have:=t3 k q; omega)).trans ((pre k (by have:=t3 k q; omega)).trans (j2 k (by have:=t3 k q; omega)))) (fun k q z=> by have:=bd3 k q; have:=t3 k z; omega) gl3;obtain⟨w4,E7,c7,K4',q1,q2,q3,q4,q5⟩:=zn (E:=E6) (c:=c6) (v:=v4) (K:=K4) (Deep.frame y4 fun k q=>(s4 k (by have:=bd4 k q; omega) (fun z=> e34 k z q)).trans ((keep5 k (by have:=bd4 k q; omega) (fun z=> e24 k z q)).trans ((pre k (by have:=bd4 k q; omega)).trans (old k (bd4 k q).2)))) (x:=v14) (a:=z8) (K1:=K8) (Deep.frame r8 fun k q=>(s4 k (by have:=bd8 k q; omega) (fun z=> by have:=bd3 k z; have:=bd8 k q; omega)).trans ((keep5 k (by have:=bd8 k q; omega) (fun z=> by have:=bd2 k z; have:=bd8 k q; omega)).trans (pre k (bd8 k q).2))) (fun k q z=> by have:=bd4 k q; have:=bd8 k z; omega) gl4;have no2:∀k,k < 3→¬K2 k∧¬K3 k∧¬K4 k:=fun k q=>⟨fun z=> by have:=bd2 k z; omega,fun z=> by have:=bd3 k z; omega,fun z=> by have:=bd4 k z; omega⟩;have far:∀k,E.length≤k→¬K2 k∧¬K3 k∧¬K4 k:=fun k q=>⟨fun z=> by have:=bd2 k z; omega,fun z=> by have:=bd3 k z; omega,fun z=> by have:=bd4 k z; omega⟩;have lo:∀k,k < 3→E7[k]? =E3[k]?:=fun k q=>(q4 k (by omega) (no2 k q).2.2).trans ((s4 k (by omega) (no2 k q).2.1).trans ((keep5 k (by omega) (no2 k q).1).trans (pre k (by omega))));have m1:=(lo 1 (by decide)).trans x1;have m2:=(lo 2 (by decide)).trans x2;have x0:(E3++[(c3,some [v13])]++[(c3+1,some [v6])]++[(c3+1+1,some [v14])])[2]? =some (2,some [v2,v3,v4]):=(pre 2 (by omega)).trans x2;have f1:(E3++[(c3,some [v13])]++[(c3+1,some [v6])]++[(c3+1+1,some [v14])])[E3.length]? =some (c3,some [v13]):=ge3a _ _ _ _;have f2:E5[E3.length+1]? =some (c3+1,some [v6]):=(keep5 _ (by omega) (far _ (by omega)).1).trans (ge3b _ _ _ _);have f3:E6[E3.length+1+1]? =some (c3+1+1,some [v14]):=(s4 _ (by omega) (far _ (by omega)).2.1).trans ((keep5 _ (by omega) (far _ (by omega)).1).trans (ge3c _ _ _ _));have x2a:∀y,(E3++[y])[2]? =some (2,some [v2,v3,v4]):=fun y=>(List.getElem?_append_left (by omega)).trans x2;have x2b:∀y z,(E3++[y]++[z])[2]? =some (2,some [v2,v3,v4]):=fun y z=>(List.getElem?_append_left (by simp; omega)).trans (x2a y);have z2:∀z,(E7.set 2 z)[2]? =some z:=fun z=> qt (by omega);obtain⟨c13,tl13⟩:=rep_one r7;obtain⟨c14,tl14⟩:=rep_one r8;obtain⟨cw2,tw2⟩:=rep_one p2;obtain⟨cw3,tw3⟩:=rep_one s2;obtain⟨cw4,tw4⟩:=rep_one q2;simp only[simprocAttr, -Int.reduceNatCast',R0,le1,x2,x2a,x2b,a1,a2,tl13,tl14,x0,f1,p1,f2,s1,f3,q1,cw2,tw2,cw3,tw3,cw4,tw4,m2,z2,List.set_set, *];have c2':∀k,K2' k→3≤k∧k < E5.length∧(K2 k∨K7 k∨E3.length+3≤k):=fun k q=> by
      refine⟨?_,Deep.bd p2 q,p3 k q⟩;rcases p3 k q with h|h|h
      ·exact(bd2 k h).1
      ·have:=bd7 k h; omega
      ·omega
     have c3':∀k,K3' k→3≤k∧k < E6.length∧(K3 k∨K6 k∨E5.length≤k):=fun k q=> by
      refine⟨?_,Deep.bd s2 q,s3 k q⟩;rcases s3 k q with h|h|h
      ·exact(bd3 k h).1
      ·have:=t3 k h; omega
      ·omega
     have c4':∀k,K4' k→3≤k∧k < E7.length∧(K4 k∨K8 k∨E6.length≤k):=fun k q=> by
      refine⟨?_,Deep.bd q2 q,q3 k q⟩;rcases q3 k q with h|h|h
      ·exact(bd4 k h).1
      ·have:=bd8 k h; omega
      ·omega
     have n23:∀k,K2' k→¬K3 k:=fun k q z=> by
      have:=bd3 k z;rcases(c2' k q).2.2 with h|h|h
      ·exact e23 k h z
      ·have:=bd7 k h; omega
      ·omega
     have n24:∀k,K2' k→¬K4 k:=fun k q z=> by
      have:=bd4 k z;rcases(c2' k q).2.2 with h|h|h
      ·exact e24 k h z
      ·have:=bd7 k h; omega
      ·omega
     have n34:∀k,K3' k→¬K4 k:=fun k q z=> by
      have:=bd4 k z;rcases(c3' k q).2.2 with h|h|h
      ·exact e34 k h z
      ·have:=t3 k h; omega
      ·omega
     have r2:Deep.rep ⟨E7.set 2 (2,some [w2,w3,w4]),c7⟩ w2 l2 K2':=Deep.frame p2 fun k q=>(qC (by have:=c2' k q; omega)).trans ((q4 k (by have:=c2' k q; omega) (n24 k q)).trans (s4 k (c2' k q).2.1 (n23 k q)));have r3:Deep.rep ⟨E7.set 2 (2,some [w2,w3,w4]),c7⟩ w3 l3 K3':=Deep.frame s2 fun k q=>(qC (by have:=c3' k q; omega)).trans (q4 k (c3' k q).2.1 (n34 k q));have r4:Deep.rep ⟨E7.set 2 (2,some [w2,w3,w4]),c7⟩ w4 l4 K4':=Deep.frame q2 fun k q=> qC (by have:=c4' k q; omega);refine ai rfl (ai ⟨w2,w3,w4,_,(qC (by decide)).trans m1,z2 _,rec3171 r2 r3 r4 (fun k p q=>?_) (fun k p q=>?_) (fun k p q=>?_),fun k q=>?_⟩ ?_)
     ·rcases(c3' k q).2.2 with h|h|h
      ·exact n23 k p h
      ·have:=t3 k h
       rcases(c2' k p).2.2 with h1|h1|h1
       ·have:=bd2 k h1; omega
       ·have:=bd7 k h1; omega
       ·omega
      ·have:=c2' k p; omega
     ·rcases(c4' k q).2.2 with h|h|h
      ·exact n24 k p h
      ·have:=bd8 k h
       rcases(c2' k p).2.2 with h1|h1|h1
       ·have:=bd2 k h1; omega
       ·exact d1 k h1 h
       ·omega
      ·have:=c2' k p; omega
     ·rcases(c4' k q).2.2 with h|h|h
      ·exact n34 k p h
      ·have:=bd8 k h
       rcases(c3' k p).2.2 with h1|h1|h1
       ·have:=bd3 k h1; omega
       ·have:=t3 k h1; omega
       ·omega
      ·have:=c3' k p; omega
     ·rcases q with q|q|q
      ·exact(c2' k q).1
      ·exact(c3' k q).1
      ·exact(c4' k q).1
     ·simp only[simprocAttr, -Int.reduceNatCast',R0, *]
    all_goals simp only[simprocAttr, -Int.reduceNatCast',R0,le1, *]
   all_goals simp only[simprocAttr, -Int.reduceNatCast',R0, *]
  ·clear hl_0 h0_0
   rintro n ⟨o2,o3,o4⟩ e ⟨E,c⟩ ⟨hS,hl_1,h1_1,h2_1,h3_1,h4_1,h30_1,h31_1⟩ hge t ho;unfold F171_1_D at ho;dsimp only at ho;have hE:=wB ho; subst hE;simp only[simprocAttr, -Int.reduceNatCast',R0,b171_1, *];intro ht;simp only[wI]at ht;obtain⟨rfl,rfl,rfl⟩:=ht;exact hS
 clear hl_0 h0_0;rintro _ e ⟨E,c⟩ ⟨rfl,⟨v2,v3,v4,K,g1,g2,r0,hk⟩,hl_0,h1_0,h2_0,h3_0,h4_0,h30_0⟩;simp only at g1 g2 r0;simp only[simprocAttr, -Int.reduceNatCast',R0, *];have rr:Deep.rep ⟨E.set 1 (1,some [v2,v3,v4]),c⟩ (V.agg [v2,v3,v4]) (⟨t1,t2,t3⟩:qj) K:=⟨_,rfl,r0.frame fun k q=> qC (by have:=hk k q; omega)⟩;refine ai (fun _=> trivial) ⟨V.agg [v2,v3,v4],?_,K,rr⟩;simp only[simprocAttr, -Int.reduceNatCast',R0,qd,p171,Rs.ev,qt (show 1 < E.length from (List.getElem?_eq_some_iff.1 g1).1), *]
theorem x171(x:qh){r:qj}(hF:F171 x=some r):tans A 171 [1,1,1] [(eC x)]=some (enc r):=zo (α:=qj) (by decide) (d171 x hF)
def F154(a0:qh):Option (T2 qj Int):=
 (F42 a0).bind fun x1=>
 if x1=true then
  (F171 a0).bind fun x3=>
  some ⟨x3,0⟩
 else
  some ⟨⟨[],[],[]⟩,1⟩
theorem d154(x:qh){r:T2 qj Int}(hF:F154 x=some r):∃v h',res A 154 [(eC x)] Heap.empty=some (v,h')∧∃vs K,v=V.tup vs∧repF h' vs [⟨r.a⟩,⟨r.b⟩] K:=by
 refine je (f:=p154) rfl rfl rfl fun e hl he=>?_;have h0_0:e.at 0=(eC x):=he 0 _ rfl;have hl_0:e.length=10:=hl;clear he hl;show W A b154 e ⟨[],0⟩ _;unfold F154 at hF;obtain⟨x1,gx1,hF⟩:=bS hF;have w2:ans A 42 [(eC x)]=some (V.bool x1):=s42 x gx1;cases x1 with
 |true=>
  rw[if_pos rfl]at hF;obtain⟨x3,gx3,hF⟩:=bS hF;have w4:tans A 171 [1,1,1] [(eC x)]=some (enc x3):=x171 x gx3;cases hF;obtain⟨v,⟨E1,c1⟩,K,t1,t2,t3,t4,t5⟩:=thawD (α:=qj) (by decide) x3 ⟨[(0,none),(1,some [V.nils,V.nils,V.nils])],2⟩;obtain⟨vs,rfl,r0⟩:=t2;have hlen:=r0.len;obtain⟨a,b,c,rfl⟩:∃a b c,vs=[a,b,c]:=by
   match vs,hlen with
   | [a,b,c],_=> exact⟨a,b,c,rfl⟩
  have t1':thaw 16 [1,1,1] ((eK x3)) ⟨[(0,none),(1,some [V.nils,V.nils,V.nils])],2⟩=some (V.agg [a,b,c],⟨E1,c1⟩):=t1;simp only[wK,wJ,wV,Nat.reduceAdd]at t3 t4 t5;have m1:E1[1]? =some (1,some [V.nils,V.nils,V.nils]):=t5 1 (by decide);have rr:Deep.rep ⟨E1.set 1 (1,some [a,b,c]),c1⟩ (V.agg [a,b,c]) x3 K:=⟨_,rfl,r0.frame fun k q=> qC (by have:=t3 k q; omega)⟩;simp only[simprocAttr,R0,b154,hl_0,h0_0,w2,w4,qK,t1',m1];refine ai (fun _=> trivial) ⟨V.tup [V.agg [a,b,c],V.int .i64 0],?_,_,_,rfl,pair_rep rr _⟩;simp only[simprocAttr,R0,qd,p154,Rs.ev,hl_0,qt (show 1 < E1.length by omega)]
 |false=>
  rw[if_neg wE]at hF;cases hF;simp only[simprocAttr,R0,b154,hl_0,h0_0,w2];have zr:∀h,Deep.rep h (V.agg [V.nils,V.nils,V.nils]) (⟨[],[],[]⟩:qj) _:=fun h=>⟨_,rfl,repF_cons (jn h) (repF_cons (jn h) (repF_1 (jn h)) (fun _ x _=> x)) (fun _ x _=> x)⟩;refine ai (fun _=> trivial) ⟨V.tup [V.agg [V.nils,V.nils,V.nils],V.int .i64 1],?_,_,_,rfl,pair_rep (α:=qj) (zr _) _⟩;simp only[simprocAttr,R0,qd,p154,Rs.ev,hl_0]
theorem s154(x:qh){r:T2 qj Int}(hF:F154 x=some r):ans A 154 [(eC x)]=some (EncR.enc r):=by
 obtain⟨_,h',h1,vs,K,rfl,h2⟩:=d154 x hF;exact ans_tup (ss:=[1,1,1]) (fits_pair rfl (by decide)) h1 h2
def F49_1_B(a0:qh)(a1:List (List (List Int)))(v18_1:Int)(s:Unit):Option ((Unit)⊕((Unit)⊕Int)):=
 (getI a1 v18_1).bind fun x7=>
(getI a0.Dims (v18_1+1)).bind fun x11=>
if(x7.length:Int)=x11 then
 (getI a0.Dims v18_1).bind fun x14=>
 (F90 a0.Prime x14 x7).bind fun x16=>
 if x16=true then
  some (.inl ())
 else
  some (.inr (.inr 2))
else
 some (.inr (.inr 2))
def F49_1_D(a0:qh)(a1:List (List (List Int)))(v18_1:Int)(s:Unit):Option ((Unit)⊕Int):=
 some (.inl ())
def F49(a0:qh)(a1:List (List (List Int))):Option Int:=
 (F42 a0).bind fun x1=>
 if x1=true then
  if(a1.length:Int)=(a0.Maps.length:Int)then
   (forR 0 (a1.length:Int) (F49_1_B a0 a1) (F49_1_D a0 a1) ()).bind fun t18=> match t18 with
    | .inl _=>
     some 0
    | .inr r19=> some r19
  else
   some 2
 else
  some 1
def I49_1(a0:qh)(a1:List (List (List Int)))(v18_1:Int)(s:Unit)(e:Env)(h:Heap):Prop:=
 ∃k5:Nat,h=⟨[(0,none)],k5⟩∧e.length=45∧e.at 2=V.iptr [V.int .i64 a0.Prime,V.isl (a0.Dims.map enc),V.isl (a0.Maps.map enc)]∧e.at 16=V.isl (a1.map enc)∧e.at 17=V.int .i64 (a1.length:Int)∧e.at 18=V.int .i64 v18_1
def P49_1(a0:qh)(a1:List (List (List Int)))(t:(Unit)⊕Int)(x:Ex)(e:Env)(h:Heap):Prop:=
 match t with
 | .inl _=> x= .normal∧∃k5:Nat,h=⟨[(0,none)],k5⟩∧e.length=45
 | .inr r=> x= .ret∧Fin p49 (enc r) .ret e h
theorem l49_1(a0:qh)(a1:List (List (List Int))){lo:Int}{s:Unit}{t:(Unit)⊕Int}(hF:forR lo (a1.length:Int) (F49_1_B a0 a1) (F49_1_D a0 a1) s=some t){e:Env}{h:Heap}(hI:I49_1 a0 a1 lo s e h):W A c49_1 e h (P49_1 a0 a1 t):=by
 show W A (.block 0 (.loop false b49_1)) e h _;rw[ql];refine qq hF 1 (by obtain⟨_,rfl,_⟩:=hI; rfl) (I49_1 a0 a1) hI ?_ ?_
 ·rintro v18_1 _ e h ⟨k5,rfl,h_4⟩ hlt hw o ho
  unfold F49_1_B at ho;obtain⟨x7,gx7,ho⟩:=bS ho;obtain⟨w8a,w8b⟩:=qm gx7;have w10:=s89 x7 rfl;obtain⟨x11,gx11,ho⟩:=bS ho;obtain⟨w12a,w12b⟩:=qm gx11;by_cases c13:(x7.length:Int)=x11
  ·rw[if_pos c13]at ho
   obtain⟨x14,gx14,ho⟩:=bS ho;obtain⟨w15a,w15b⟩:=qm gx14;obtain⟨x16,gx16,ho⟩:=bS ho;have w17:=s90 a0.Prime x14 x7 gx16;cases x16 with
   |true=>
    rw[if_pos rfl]at ho;cases ho;simp only[simprocAttr,R0,b49_1, *];refine ai rfl (ei _ (ai rfl ?_));simp only[simprocAttr,R0, *]
   |false=>
    rw[if_neg wE]at ho;cases ho;simp only[simprocAttr,R0,b49_1, *];intro ht; subst ht;simp only[simprocAttr,RR,RB];exact ai rfl (qc (by simp only[simprocAttr,R0,qd,p49,Rs.ev,qa, *]))
  ·rw[if_neg c13]at ho
   cases ho;simp only[simprocAttr,R0,b49_1, *];intro ht; subst ht;simp only[simprocAttr,RR,RB];exact ai rfl (qc (by simp only[simprocAttr,R0,qd,p49,Rs.ev,qa, *]))
 ·rintro v18_1 _ e h ⟨k5,rfl,h_4⟩ hge t1 ho
  unfold F49_1_D at ho;cases ho;simp only[simprocAttr,R0,b49_1, *];intro ht; subst ht;refine ai rfl (ei _ (ai rfl ?_));simp only[simprocAttr,R0, *]
theorem s49(a0:qh)(a1:List (List (List Int))){r:Int}(hF:F49 a0 a1=some r):ans A 49 [(eC a0),V.isl (a1.map enc)]=some (enc r):=by
 refine qp (f:=p49) rfl rfl rfl fun e hl he=>?_;have h0_0:e.at 0=(eC a0):=he 0 _ rfl;have h1_0:e.at 1=V.isl (a1.map enc):=he 1 _ rfl;have hl_0:e.length=45:=hl;clear he hl;have h_0:=ai hl_0 (ai h0_0 h1_0);show W A b49 e ⟨[],0⟩ _;unfold F49 at hF;obtain⟨x1,gx1,hF⟩:=bS hF;have w2:=s42 a0 gx1;cases x1 with
 |true=>
  rw[if_pos rfl]at hF;by_cases c3:(a1.length:Int)=(a0.Maps.length:Int)
  ·rw[if_pos c3]at hF
   obtain⟨t18,gt18,hF⟩:=bS hF;rcases t18 with _|r19
   ·dsimp only at hF
    simp only[simprocAttr,R0,b49, *];refine W.mono (l49_1 a0 a1 gt18 (ei _ (ai rfl ?_))) ?_
    ·simp only[simprocAttr,R0, *]
    rintro _ e _ ⟨rfl,k5,rfl,hl_6⟩;cases hF;simp only[simprocAttr,R0, *];exact qc (by simp only[simprocAttr,R0,qd,p49,Rs.ev,qa, *])
   ·dsimp only at hF
    cases hF;simp only[simprocAttr,R0,b49, *];refine W.mono (l49_1 a0 a1 gt18 (ei _ (ai rfl ?_))) ?_
    ·simp only[simprocAttr,R0, *]
    rintro _ e h ⟨rfl,hq⟩;simp only[simprocAttr,RR,RB];exact hq
  ·rw[if_neg c3]at hF
   cases hF;simp only[simprocAttr,R0,b49, *];exact qc (by simp only[simprocAttr,R0,qd,p49,Rs.ev,qa, *])
 |false=>
  rw[if_neg wE]at hF;cases hF;simp only[simprocAttr,R0,b49, *];exact qc (by simp only[simprocAttr,R0,qd,p49,Rs.ev,qa, *])
def F57(x:qh):Option qh:=
 (F96 x.Dims).bind fun d=>(F74 x.Prime d).bind fun b=>(F85 x.Maps (fun n r pl v s=> F75 b.Prime n r pl v s) b.Maps).bind fun ms=> some ⟨b.Prime,b.Dims,ms⟩
def S57(p:Int)(dv m:V)(N c1:Nat)(K:Ks)(R:List (Nat×Option (List V))→Prop)(s:List (List (List Int)))(E:List (Nat×Option (List V))):Prop:=
 Deep.rep ⟨E,0⟩ m s K∧R E∧E[N]? =some (c1,some [V.int .i64 p,dv,m])
theorem st57(p:Int)(dv m:V)(N c1:Nat)(K:Ks)(R:List (Nat×Option (List V))→Prop)(hN:¬K N)(hR:∀E E',R E→(∀k,k < E.length→¬K k→E'[k]? =E[k]?)→R E'):Step4 75 [V.agg [V.int .i64 p,dv,m]] [] (S57 p dv m N c1 K R) (fun n r pl v s=> F75 p n r pl v s) where
 call:=by
  rintro n r pl v s s' hF E c ⟨h1,h2,h3⟩;have r1:Deep.rep ⟨E,c⟩ m s K:=Deep.frame h1 fun _ _=> rfl;obtain⟨⟨E',c'⟩,q1,q2,q3,q4⟩:=d75 (dv:=dv) hF E c r1;exact⟨E',c',q1,Deep.frame q2 fun _ _=> rfl,hR E E' h2 q3,(q3 N (List.getElem?_eq_some_iff.1 h3).1 hN).trans h3⟩
 pad:=by
  rintro s E x ⟨h1,h2,h3⟩;exact⟨Deep.frame h1 fun k q=> List.getElem?_append_left (Deep.bd h1 q),hR E _ h2 fun k q _=> List.getElem?_append_left q,(List.getElem?_append_left (List.getElem?_eq_some_iff.1 h3).1).trans h3⟩
theorem d57(x:qh){r:qh}(hF:F57 x=some r):∃v h',res A 57 [(eC x)] Heap.empty=some (v,h')∧∃K,Deep.rep h' v r K:=by
 refine je (f:=p57) rfl rfl rfl fun e hl he=>?_;have h0_0:e.at 0=(eC x):=he 0 _ rfl;have hl_0:e.length=15:=hl;clear he hl;show W A b57 e ⟨[],0⟩ _;unfold F57 at hF;obtain⟨d,gd,hF⟩:=bS hF;have wd:=t96 x.Dims gd;obtain⟨o,go,hF⟩:=bS hF;obtain⟨ms,gt,hF⟩:=bS hF;cases hF;obtain⟨_,⟨E1,c1⟩,w1,e1,e2,m,K,rfl,t1,t2,t3,t4⟩:=d74 x.Prime d go [(0,none),(1,some [V.int .i64 0,V.nils,V.nils]),(2,some (d.map enc))] 3 (dk:=2) (du:=2) rfl;simp only[wK,wJ,wV,Nat.reduceAdd]at t2 t3 t4;have m1:E1[1]? =some (1,some [V.int .i64 0,V.nils,V.nils]):=t3 1 (by decide);have m2:E1[2]? =some (2,some (d.map enc)):=t3 2 (by decide);obtain⟨⟨E2,c2⟩,w2,q1,q2,q3⟩:=e85 (st57 o.Prime (V.sl 2 2 0 d.length 1) m E1.length c1 K (fun E=> E[1]? =some (1,some [V.int .i64 0,V.nils,V.nils])∧E[2]? =some (2,some (d.map enc))) (fun q=> by have:=Deep.bd t1 q; simp at this)
  (fun E E' h hk=>⟨(hk 1 (List.getElem?_eq_some_iff.1 h.1).1 (fun q=> by have:=t2 _ q; omega)).trans h.1,(hk 2 (List.getElem?_eq_some_iff.1 h.2).1 (fun q=> by have:=t2 _ q; omega)).trans h.2⟩)) x gt (E1++[(c1,some [V.int .i64 o.Prime,V.sl 2 2 0 d.length 1,m])]) (c1+1) ⟨Deep.frame t1 fun k q=> List.getElem?_append_left (Deep.bd t1 q),⟨by rw[List.getElem?_append_left (by omega)]; exact m1,by rw[List.getElem?_append_left (by omega)]; exact m2⟩,qy _ _⟩
 obtain⟨q2,q4⟩:=q2;simp only at q2 q3 q4;simp only[simprocAttr,R0,b57,hl_0,h0_0,wd,w1,qY,qy,jm,qn,w2,q2,q3];have hE0:1 < E2.length:=(List.getElem?_eq_some_iff.1 q2).1;refine ai (fun _=> trivial) ⟨V.agg [V.int .i64 o.Prime,V.sl 2 2 0 d.length 1,m],by simp only[simprocAttr,R0,qd,p57,Rs.ev,hl_0,qt hE0],_,_,rfl,rec3 (K1:=fun k=> k=2) (K2:=K) ?_ (Deep.frame q1 fun k q=> qC (by have:=t2 _ q; omega)) (fun k p q=> by have:=t2 _ q; omega)⟩;have hq:(E2.set 1 (1,some [V.int .i64 o.Prime,V.sl 2 2 0 d.length 1,m]))[2]? =some (2,some (d.map enc)):=(qC (by decide)).trans q4;show Deep.rep _ _ o.Dims _;rw[e2];exact zh hq fun k=> vU
theorem x57(x:qh){r:qh}(hF:F57 x=some r):tans A 57 [1,1,1] [(eC x)]=some (enc r):=zo (α:=qh) (by decide) (d57 x hF)
def F50(x:qh)(maps:List (List (List Int))):Option qh:=
 (F57 x).bind fun b=>(F85 maps (fun n r pl v s=> F75 b.Prime n r pl v s) b.Maps).bind fun ms=> some ⟨b.Prime,b.Dims,ms⟩
theorem d50(x:qh)(maps:List (List (List Int))){r:qh}(hF:F50 x maps=some r):∃v h',res A 50 [(eC x),V.isl (maps.map enc)] Heap.empty=some (v,h')∧∃K,Deep.rep h' v r K:=by
 refine je (f:=p50) rfl rfl rfl fun e hl he=>?_;have h0_0:e.at 0=(eC x):=he 0 _ rfl;have h1_0:e.at 1=V.isl (maps.map enc):=he 1 _ rfl;have hl_0:e.length=14:=hl;clear he hl;show W A b50 e ⟨[],0⟩ _;unfold F50 at hF;obtain⟨o,go,hF⟩:=bS hF;obtain⟨ms,gt,hF⟩:=bS hF;cases hF;have w1:=x57 x go;obtain⟨_,⟨E1,c1⟩,t1,⟨_,rfl,t2⟩,t3,t4⟩:=thaw_deep (α:=qh) (by decide) o ⟨[(0,none),(1,some [V.int .i64 0,V.nils,V.nils])],2⟩;obtain⟨dv,m,K1,K2,rfl,t5,t6,t7,t8⟩:=rec3_un t2;simp only[wK,wJ,wV,Nat.reduceAdd]at t3 t4 t8;have t1':thaw 16 [1,1,1] ((eC o)) ⟨[(0,none),(1,some [V.int .i64 0,V.nils,V.nils])],2⟩=some (V.agg [V.int .i64 o.Prime,dv,m],⟨E1,c1⟩):=t1;have b1:∀k,K1 k→2≤k∧k < E1.length:=fun k q=>(t8 k).2 (.inl q);have b2:∀k,K2 k→2≤k∧k < E1.length:=fun k q=>(t8 k).2 (.inr q);have m1:E1[1]? =some (1,some [V.int .i64 0,V.nils,V.nils]):=t4 1 (by decide);obtain⟨⟨E2,c2⟩,w2,q1,q2,q3⟩:=e85 (st57 o.Prime dv m E1.length c1 K2 (fun E=> E[1]? =some (1,some [V.int .i64 0,V.nils,V.nils])∧Deep.rep ⟨E,0⟩ dv o.Dims K1) (fun q=> by have:=b2 _ q; omega)
  (fun E E' h hk=>⟨(hk 1 (List.getElem?_eq_some_iff.1 h.1).1 (fun q=> by have:=b2 _ q; omega)).trans h.1,Deep.frame h.2 fun k q=> hk k (Deep.bd h.2 q) (t7 k q)⟩)) ⟨0,[],maps⟩ gt (E1++[(c1,some [V.int .i64 o.Prime,dv,m])]) (c1+1) ⟨Deep.frame t6 fun k q=> List.getElem?_append_left (b2 k q).2,⟨by rw[List.getElem?_append_left (by omega)]; exact m1,Deep.frame t5 fun k q=> List.getElem?_append_left (b1 k q).2⟩,qy _ _⟩
 obtain⟨q2,q4⟩:=q2;simp only[List.map_nil]at q2 q3 w2;simp only[simprocAttr,R0,b50,qK,t1',qy,jm,qn,q2,q3, *];have hE0:1 < E2.length:=(List.getElem?_eq_some_iff.1 q2).1;refine ai (fun _=> trivial) ⟨V.agg [V.int .i64 o.Prime,dv,m],by simp only[simprocAttr,R0,qd,p50,Rs.ev,qt hE0, *],_,_,rfl,rec3 (Deep.frame q4 fun k q=> qC (by have:=b1 _ q; omega)) (Deep.frame q1 fun k q=> qC (by have:=b2 _ q; omega)) t7⟩
theorem x50(x:qh)(maps:List (List (List Int))){r:qh}(hF:F50 x maps=some r):tans A 50 [1,1,1] [(eC x),V.isl (maps.map enc)]=some (enc r):=zo (α:=qh) (by decide) (d50 x maps hF)
theorem s50(x:qh)(maps:List (List (List Int))){r:qh}(hF:F50 x maps=some r):ans A 50 [(eC x),V.isl (maps.map enc)]=some (enc r):=jy (α:=qh) (by decide) (d50 x maps hF)
def F175(a0:qj)(a1:qh)(a2:Int)(a3:List Int):Option (List Int):=
 (F86 a1).bind fun x1=>
 (F56 a2 0 x1).bind fun x3=>
 if x3=true then
  (getI a0.Up a2).bind fun x5=>
  (getI a0.Down a2).bind fun x9=>
  (F119 a1.Prime (x5.length:Int) a3 x9).bind fun x11=>
  some x11
 else
  some ([]:List Int)
theorem s175(a0:qj)(a1:qh)(a2:Int)(a3:List Int){r:List Int}(hF:F175 a0 a1 a2 a3=some r):ans A 175 [(eK a0),(eC a1),V.int .i64 a2,V.isl (a3.map enc)]=some (enc r):=by
 refine qp (f:=p175) rfl rfl rfl fun e hl he=>?_;have h0_0:e.at 0=(eK a0):=he 0 _ rfl;have h1_0:e.at 1=(eC a1):=he 1 _ rfl;have h2_0:e.at 2=V.int .i64 a2:=he 2 _ rfl;have h3_0:e.at 3=V.isl (a3.map enc):=he 3 _ rfl;have hl_0:e.length=29:=hl;clear he hl;have h_0:=ai hl_0 (ai h0_0 (ai h1_0 (ai h2_0 h3_0)));show W A b175 e ⟨[],0⟩ _;unfold F175 at hF;obtain⟨x1,gx1,hF⟩:=bS hF;have w2:=s86 a1 gx1;obtain⟨x3,gx3,hF⟩:=bS hF;have w4:=s56 a2 0 x1 gx3;cases x3 with
 |true=>
  rw[if_pos rfl]at hF;obtain⟨x5,gx5,hF⟩:=bS hF;obtain⟨w6a,w6b⟩:=qm gx5;have w8:=s89 x5 rfl;obtain⟨x9,gx9,hF⟩:=bS hF;obtain⟨w10a,w10b⟩:=qm gx9;obtain⟨x11,gx11,hF⟩:=bS hF;have w12:=s119 a1.Prime (x5.length:Int) a3 x9 gx11;cases hF;simp only[simprocAttr,R0,b175, *];exact qc (by simp only[simprocAttr,R0,qd,p175,Rs.ev,qa, *])
 |false=>
  rw[if_neg wE]at hF;cases hF;simp only[simprocAttr,R0,b175, *];exact qc (by simp only[simprocAttr,R0,qd,p175,Rs.ev,qa, *])
def F194(a0:qj)(a1:qh)(a2:Int)(a3:List Int):Option (List Int):=
 (F86 a1).bind fun x1=>
 (F56 a2 0 x1).bind fun x3=>
 if x3=true then
  (chk (a2+1)).bind fun x5=>
  (F102 a1 x5).bind fun x6=>
  (getI a0.Back a2).bind fun x8=>
  (F119 a1.Prime x6 a3 x8).bind fun x10=>
  some x10
 else
  some ([]:List Int)
theorem s194(a0:qj)(a1:qh)(a2:Int)(a3:List Int){r:List Int}(hF:F194 a0 a1 a2 a3=some r):ans A 194 [(eK a0),(eC a1),V.int .i64 a2,V.isl (a3.map enc)]=some (enc r):=by
 refine qp (f:=p194) rfl rfl rfl fun e hl he=>?_;have h0_0:e.at 0=(eK a0):=he 0 _ rfl;have h1_0:e.at 1=(eC a1):=he 1 _ rfl;have h2_0:e.at 2=V.int .i64 a2:=he 2 _ rfl;have h3_0:e.at 3=V.isl (a3.map enc):=he 3 _ rfl;have hl_0:e.length=27:=hl;clear he hl;have h_0:=ai hl_0 (ai h0_0 (ai h1_0 (ai h2_0 h3_0)));show W A b194 e ⟨[],0⟩ _;unfold F194 at hF;obtain⟨x1,gx1,hF⟩:=bS hF;have w2:=s86 a1 gx1;obtain⟨x3,gx3,hF⟩:=bS hF;have w4:=s56 a2 0 x1 gx3;cases x3 with
 |true=>
  rw[if_pos rfl]at hF;obtain⟨x5,gx5,hF⟩:=bS hF;have wx5:=qx gx5;obtain⟨x6,gx6,hF⟩:=bS hF;have w7:=s102 a1 x5 gx6;obtain⟨x8,gx8,hF⟩:=bS hF;obtain⟨w9a,w9b⟩:=qm gx8;obtain⟨x10,gx10,hF⟩:=bS hF;have w11:=s119 a1.Prime x6 a3 x8 gx10;cases hF;simp only[simprocAttr,R0,b194, *];exact qc (by simp only[simprocAttr,R0,qd,p194,Rs.ev,qa, *])
 |false=>
  rw[if_neg wE]at hF;cases hF;simp only[simprocAttr,R0,b194, *];exact qc (by simp only[simprocAttr,R0,qd,p194,Rs.ev,qa, *])
def F206_1_B(a0:qj)(a1:qh)(v36_1:Int)(s:Unit):Option ((Unit)⊕((Unit)⊕Bool)):=
 (getI a1.Dims v36_1).bind fun x7=>
(F168 a1 v36_1).bind fun x9=>
(getI a0.Down v36_1).bind fun x11=>
if(x11.length:Int)=x7 then
 (getI a0.Up v36_1).bind fun x16=>
 if(x16.length:Int)=x9 then
  (getI a0.Back v36_1).bind fun x21=>
  if(x21.length:Int)=x7 then
   (F90 a1.Prime x9 x11).bind fun x26=>
   if x26=true then
    (F90 a1.Prime x7 x16).bind fun x28=>
    if x28=true then
     (F102 a1 (v36_1+1)).bind fun x30=>
     (F90 a1.Prime x30 x21).bind fun x32=>
     if x32=true then
      some (.inl ())
     else
      some (.inr (.inr false))
    else
     some (.inr (.inr false))
   else
    some (.inr (.inr false))
  else
   some (.inr (.inr false))
 else
  some (.inr (.inr false))
else
 some (.inr (.inr false))
def F206_1_D(a0:qj)(a1:qh)(v36_1:Int)(s:Unit):Option ((Unit)⊕Bool):=
 some (.inl ())
def F206(a0:qj)(a1:qh):Option Bool:=
 if(a0.Down.length:Int)=(a1.Dims.length:Int)then
  if(a0.Up.length:Int)=(a1.Dims.length:Int)then
   if(a0.Back.length:Int)=(a1.Dims.length:Int)then
    (forR 0 (a1.Dims.length:Int) (F206_1_B a0 a1) (F206_1_D a0 a1) ()).bind fun t34=> match t34 with
     | .inl _=>
      some true
     | .inr r35=> some r35
   else
    some false
  else
   some false
 else
  some false
def I206_1(a0:qj)(a1:qh)(v36_1:Int)(s:Unit)(e:Env)(h:Heap):Prop:=
 ∃k5:Nat,h=⟨[(0,none),(0,none)],k5⟩∧e.length=112∧e.at 2=V.iptr [V.isl (a0.Down.map enc),V.isl (a0.Up.map enc),V.isl (a0.Back.map enc)]∧e.at 3=V.iptr [V.int .i64 a1.Prime,V.isl (a1.Dims.map enc),V.isl (a1.Maps.map enc)]∧e.at 34=V.isl (a1.Dims.map enc)∧e.at 35=V.int .i64 (a1.Dims.length:Int)∧e.at 36=V.int .i64 v36_1
def P206_1(a0:qj)(a1:qh)(t:(Unit)⊕Bool)(x:Ex)(e:Env)(h:Heap):Prop:=
 match t with
 | .inl _=> x= .normal∧∃k5:Nat,h=⟨[(0,none),(0,none)],k5⟩∧e.length=112
 | .inr r=> x= .ret∧Fin p206 (enc r) .ret e h
theorem l206_1(a0:qj)(a1:qh){lo:Int}{s:Unit}{t:(Unit)⊕Bool}(hF:forR lo (a1.Dims.length:Int) (F206_1_B a0 a1) (F206_1_D a0 a1) s=some t){e:Env}{h:Heap}(hI:I206_1 a0 a1 lo s e h):W A c206_1 e h (P206_1 a0 a1 t):=by
 show W A (.block 0 (.loop false b206_1)) e h _;rw[ql];refine qq hF 2 (by obtain⟨_,rfl,_⟩:=hI; rfl) (I206_1 a0 a1) hI ?_ ?_
 ·rintro v36_1 _ e h ⟨k5,rfl,h_4⟩ hlt hw o ho
  unfold F206_1_B at ho;obtain⟨x7,gx7,ho⟩:=bS ho;obtain⟨w8a,w8b⟩:=qm gx7;obtain⟨x9,gx9,ho⟩:=bS ho;have w10:=s168 a1 v36_1 gx9;obtain⟨x11,gx11,ho⟩:=bS ho;obtain⟨w12a,w12b⟩:=qm gx11;have w14:=s89 x11 rfl;by_cases c15:(x11.length:Int)=x7
  ·rw[if_pos c15]at ho
   obtain⟨x16,gx16,ho⟩:=bS ho;obtain⟨w17a,w17b⟩:=qm gx16;have w19:=s89 x16 rfl;by_cases c20:(x16.length:Int)=x9
   ·rw[if_pos c20]at ho
    obtain⟨x21,gx21,ho⟩:=bS ho;obtain⟨w22a,w22b⟩:=qm gx21;have w24:=s89 x21 rfl;by_cases c25:(x21.length:Int)=x7
    ·rw[if_pos c25]at ho
     obtain⟨x26,gx26,ho⟩:=bS ho;have w27:=s90 a1.Prime x9 x11 gx26;cases x26 with
     |true=>
      rw[if_pos rfl]at ho;obtain⟨x28,gx28,ho⟩:=bS ho;have w29:=s90 a1.Prime x7 x16 gx28;cases x28 with
      |true=>
       rw[if_pos rfl]at ho;obtain⟨x30,gx30,ho⟩:=bS ho;have w31:=s102 a1 (v36_1+1) gx30;obtain⟨x32,gx32,ho⟩:=bS ho;have w33:=s90 a1.Prime x30 x21 gx32;cases x32 with
       |true=>
        rw[if_pos rfl]at ho;cases ho;simp only[simprocAttr,R0,b206_1, *];refine ai rfl (ei _ (ai rfl ?_));simp only[simprocAttr,R0, *]
       |false=>
        rw[if_neg wE]at ho;cases ho;simp only[simprocAttr,R0,b206_1, *];intro ht; subst ht;simp only[simprocAttr,RR,RB];exact ai rfl (qc (by simp only[simprocAttr,R0,qd,p206,Rs.ev,qa, *]))
      |false=>
       rw[if_neg wE]at ho;cases ho;simp only[simprocAttr,R0,b206_1, *];intro ht; subst ht;simp only[simprocAttr,RR,RB];exact ai rfl (qc (by simp only[simprocAttr,R0,qd,p206,Rs.ev,qa, *]))
     |false=>
      rw[if_neg wE]at ho;cases ho;simp only[simprocAttr,R0,b206_1, *];intro ht; subst ht;simp only[simprocAttr,RR,RB];exact ai rfl (qc (by simp only[simprocAttr,R0,qd,p206,Rs.ev,qa, *]))
    ·rw[if_neg c25]at ho
     cases ho;simp only[simprocAttr,R0,b206_1, *];intro ht; subst ht;simp only[simprocAttr,RR,RB];exact ai rfl (qc (by simp only[simprocAttr,R0,qd,p206,Rs.ev,qa, *]))
   ·rw[if_neg c20]at ho
    cases ho;simp only[simprocAttr,R0,b206_1, *];intro ht; subst ht;simp only[simprocAttr,RR,RB];exact ai rfl (qc (by simp only[simprocAttr,R0,qd,p206,Rs.ev,qa, *]))
  ·rw[if_neg c15]at ho
   cases ho;simp only[simprocAttr,R0,b206_1, *];intro ht; subst ht;simp only[simprocAttr,RR,RB];exact ai rfl (qc (by simp only[simprocAttr,R0,qd,p206,Rs.ev,qa, *]))
 ·rintro v36_1 _ e h ⟨k5,rfl,h_4⟩ hge t1 ho
  unfold F206_1_D at ho;cases ho;simp only[simprocAttr,R0,b206_1, *];intro ht; subst ht;refine ai rfl (ei _ (ai rfl ?_));simp only[simprocAttr,R0, *]
theorem s206(a0:qj)(a1:qh){r:Bool}(hF:F206 a0 a1=some r):ans A 206 [(eK a0),(eC a1)]=some (enc r):=by
 refine qp (f:=p206) rfl rfl rfl fun e hl he=>?_;have h0_0:e.at 0=(eK a0):=he 0 _ rfl;have h1_0:e.at 1=(eC a1):=he 1 _ rfl;have hl_0:e.length=112:=hl;clear he hl;have h_0:=ai hl_0 (ai h0_0 h1_0);show W A b206 e ⟨[],0⟩ _;unfold F206 at hF;by_cases c1:(a0.Down.length:Int)=(a1.Dims.length:Int)
 ·rw[if_pos c1]at hF
  by_cases c2:(a0.Up.length:Int)=(a1.Dims.length:Int)
  ·rw[if_pos c2]at hF
   by_cases c3:(a0.Back.length:Int)=(a1.Dims.length:Int)
   ·rw[if_pos c3]at hF
    obtain⟨t34,gt34,hF⟩:=bS hF;rcases t34 with _|r35
    ·dsimp only at hF
     simp only[simprocAttr,R0,b206, *];refine W.mono (l206_1 a0 a1 gt34 (ei _ (ai rfl ?_))) ?_
     ·simp only[simprocAttr,R0, *]
     rintro _ e _ ⟨rfl,k5,rfl,hl_6⟩;cases hF;simp only[simprocAttr,R0, *];exact qc (by simp only[simprocAttr,R0,qd,p206,Rs.ev,qa, *])
    ·dsimp only at hF
     cases hF;simp only[simprocAttr,R0,b206, *];refine W.mono (l206_1 a0 a1 gt34 (ei _ (ai rfl ?_))) ?_
     ·simp only[simprocAttr,R0, *]
     rintro _ e h ⟨rfl,hq⟩;simp only[simprocAttr,RR,RB];exact hq
   ·rw[if_neg c3]at hF
    cases hF;simp only[simprocAttr,R0,b206, *];exact qc (by simp only[simprocAttr,R0,qd,p206,Rs.ev,qa, *])
  ·rw[if_neg c2]at hF
   cases hF;simp only[simprocAttr,R0,b206, *];exact qc (by simp only[simprocAttr,R0,qd,p206,Rs.ev,qa, *])
 ·rw[if_neg c1]at hF
  cases hF;simp only[simprocAttr,R0,b206, *];exact qc (by simp only[simprocAttr,R0,qd,p206,Rs.ev,qa, *])
def F207(a0:qj)(a1:qh)(a2:Int)(a3:List Int):Option (List Int):=
 (F102 a1 a2).bind fun x1=>
 (getI a0.Up a2).bind fun x3=>
 (F119 a1.Prime x1 a3 x3).bind fun x5=>
 some x5
theorem s207(a0:qj)(a1:qh)(a2:Int)(a3:List Int){r:List Int}(hF:F207 a0 a1 a2 a3=some r):ans A 207 [(eK a0),(eC a1),V.int .i64 a2,V.isl (a3.map enc)]=some (enc r):=by
 refine qp (f:=p207) rfl rfl rfl fun e hl he=>?_;have h0_0:e.at 0=(eK a0):=he 0 _ rfl;have h1_0:e.at 1=(eC a1):=he 1 _ rfl;have h2_0:e.at 2=V.int .i64 a2:=he 2 _ rfl;have h3_0:e.at 3=V.isl (a3.map enc):=he 3 _ rfl;have hl_0:e.length=21:=hl;clear he hl;show W A b207 e ⟨[],0⟩ _;unfold F207 at hF;obtain⟨x1,gx1,hF⟩:=bS hF;have w2:=s102 a1 a2 gx1;obtain⟨x3,gx3,hF⟩:=bS hF;obtain⟨w4a,w4b⟩:=qm gx3;obtain⟨x5,gx5,hF⟩:=bS hF;have w6:=s119 a1.Prime x1 a3 x3 gx5;cases hF;simp only[simprocAttr,R0,b207, *];exact qc (by simp only[simprocAttr,R0,qd,p207,Rs.ev,qa, *])
def F192_2_B(a0:qj)(a1:qh)(v25_1:Int)(x10:List (List Int))(v33_2:Int)(s:Unit):Option ((Unit)⊕((Unit)⊕Bool)):=
 (getI x10 v33_2).bind fun x15=>
(F91 a1 v25_1 x15).bind fun x17=>
(F194 a0 a1 v25_1 x15).bind fun x19=>
(F175 a0 a1 v25_1 x15).bind fun x21=>
(F207 a0 a1 v25_1 x21).bind fun x23=>
(chk (a1.Prime - 1)).bind fun x25=>
(F173 a1.Prime x15 x23 x25).bind fun x26=>
(F102 a1 v25_1).bind fun x28=>
(mkL 8 x28 0).bind fun l30=>
if 0 < v25_1 then
 (chk (v25_1 - 1)).bind fun x33=>
 (F194 a0 a1 x33 x17).bind fun x34=>
 (F173 a1.Prime l30 x34 1).bind fun x36=>
 (F175 a0 a1 x33 x17).bind fun x38=>
 (F92 x38).bind fun x40=>
 if x40=true then
  (F86 a1).bind fun x42=>
  if v25_1 < x42 then
   (chk (v25_1+1)).bind fun x45=>
   (F91 a1 x45 x19).bind fun x46=>
   (F173 a1.Prime x36 x46 1).bind fun x48=>
   (F194 a0 a1 x45 x19).bind fun x50=>
   (F92 x50).bind fun x52=>
   if x52=true then
    (F175 a0 a1 x45 x19).bind fun x54=>
    (F92 x54).bind fun x56=>
    if x56=true then
     (F165 x26 x48).bind fun x58=>
     if x58=true then
      some (.inl ())
     else
      some (.inr (.inr false))
    else
     some (.inr (.inr false))
   else
    some (.inr (.inr false))
  else
   (F165 x26 x36).bind fun x60=>
   if x60=true then
    some (.inl ())
   else
    some (.inr (.inr false))
 else
  some (.inr (.inr false))
else
 (F86 a1).bind fun x62=>
 if v25_1 < x62 then
  (chk (v25_1+1)).bind fun x65=>
  (F91 a1 x65 x19).bind fun x66=>
  (F173 a1.Prime l30 x66 1).bind fun x68=>
  (F194 a0 a1 x65 x19).bind fun x70=>
  (F92 x70).bind fun x72=>
  if x72=true then
   (F175 a0 a1 x65 x19).bind fun x74=>
   (F92 x74).bind fun x76=>
   if x76=true then
    (F165 x26 x68).bind fun x78=>
    if x78=true then
     some (.inl ())
    else
     some (.inr (.inr false))
   else
    some (.inr (.inr false))
  else
   some (.inr (.inr false))
 else
  (F165 x26 l30).bind fun x80=>
  if x80=true then
   some (.inl ())
  else
   some (.inr (.inr false))
def F192_2_D(a0:qj)(a1:qh)(v25_1:Int)(x10:List (List Int))(v33_2:Int)(s:Unit):Option ((Unit)⊕Bool):=
 some (.inl ())
def F192_3_B(a0:qj)(a1:qh)(v25_1:Int)(x87:List (List Int))(v126_3:Int)(s:Unit):Option ((Unit)⊕((Unit)⊕Bool)):=
 (getI x87 v126_3).bind fun x92=>
(F207 a0 a1 v25_1 x92).bind fun x94=>
(F91 a1 v25_1 x94).bind fun x96=>
(F92 x96).bind fun x98=>
if x98=true then
 (F175 a0 a1 v25_1 x94).bind fun x100=>
 (F165 x100 x92).bind fun x102=>
 if x102=true then
  (F194 a0 a1 v25_1 x94).bind fun x104=>
  (F92 x104).bind fun x106=>
  if x106=true then
   some (.inl ())
  else
   some (.inr (.inr false))
 else
  some (.inr (.inr false))
else
 some (.inr (.inr false))
def F192_3_D(a0:qj)(a1:qh)(v25_1:Int)(x87:List (List Int))(v126_3:Int)(s:Unit):Option ((Unit)⊕Bool):=
 some (.inl ())
def F192_1_B(a0:qj)(a1:qh)(v25_1:Int)(s:Unit):Option ((Unit)⊕((Unit)⊕Bool)):=
 (F102 a1 v25_1).bind fun x8=>
(F124 x8).bind fun x10=>
(forR 0 (x10.length:Int) (F192_2_B a0 a1 v25_1 x10) (F192_2_D a0 a1 v25_1 x10) ()).bind fun t82=> match t82 with
 | .inl _=>
  (getI a0.Up v25_1).bind fun x83=>
  (F124 (x83.length:Int)).bind fun x87=>
  (forR 0 (x87.length:Int) (F192_3_B a0 a1 v25_1 x87) (F192_3_D a0 a1 v25_1 x87) ()).bind fun t108=> match t108 with
   | .inl _=>
    some (.inl ())
   | .inr r109=> some (.inr (.inr r109))
 | .inr r110=> some (.inr (.inr r110))
def F192_1_D(a0:qj)(a1:qh)(v25_1:Int)(s:Unit):Option ((Unit)⊕Bool):=
 some (.inl ())
def F192(a0:qj)(a1:qh):Option Bool:=
 (F206 a0 a1).bind fun x1=>
 if x1=true then
  (forR 0 (a1.Dims.length:Int) (F192_1_B a0 a1) (F192_1_D a0 a1) ()).bind fun t111=> match t111 with
   | .inl _=>
    some true
   | .inr r112=> some r112
 else
  some false
def I192_2(a0:qj)(a1:qh)(v25_1:Int)(x10:List (List Int))(v33_2:Int)(s:Unit)(e:Env)(h:Heap):Prop:=
 ∃k13:Nat,h=⟨[(0,none),(0,none)],k13⟩∧e.length=162∧e.at 2=V.iptr [V.isl (a0.Down.map enc),V.isl (a0.Up.map enc),V.isl (a0.Back.map enc)]∧e.at 3=V.iptr [V.int .i64 a1.Prime,V.isl (a1.Dims.map enc),V.isl (a1.Maps.map enc)]∧e.at 5=V.int .i64 a1.Prime∧e.at 6=V.int .i64 v25_1∧e.at 24=V.int .i64 (a1.Dims.length:Int)∧e.at 25=V.int .i64 v25_1∧e.at 31=V.isl (x10.map enc)∧e.at 32=V.int .i64 (x10.length:Int)∧e.at 33=V.int .i64 v33_2
def P192_2(a0:qj)(a1:qh)(v25_1:Int)(x10:List (List Int))(t:(Unit)⊕Bool)(x:Ex)(e:Env)(h:Heap):Prop:=
 match t with
 | .inl _=> x= .normal∧∃k13:Nat,h=⟨[(0,none),(0,none)],k13⟩∧e.length=162∧e.at 2=V.iptr [V.isl (a0.Down.map enc),V.isl (a0.Up.map enc),V.isl (a0.Back.map enc)]∧e.at 3=V.iptr [V.int .i64 a1.Prime,V.isl (a1.Dims.map enc),V.isl (a1.Maps.map enc)]∧e.at 5=V.int .i64 a1.Prime∧e.at 6=V.int .i64 v25_1∧e.at 24=V.int .i64 (a1.Dims.length:Int)∧e.at 25=V.int .i64 v25_1
 | .inr r=> x= .ret∧Fin p192 (enc r) .ret e h
theorem l192_2(a0:qj)(a1:qh)(v25_1:Int)(x10:List (List Int)){lo:Int}{s:Unit}{t:(Unit)⊕Bool}(hF:forR lo (x10.length:Int) (F192_2_B a0 a1 v25_1 x10) (F192_2_D a0 a1 v25_1 x10) s=some t){e:Env}{h:Heap}(hI:I192_2 a0 a1 v25_1 x10 lo s e h):W A c192_2 e h (P192_2 a0 a1 v25_1 x10 t):=by
 show W A (.block 2 (.loop false ji)) e h _;rw[ql];refine qq hF 2 (by obtain⟨_,rfl,_⟩:=hI; rfl) (I192_2 a0 a1 v25_1 x10) hI ?_ ?_
 ·rintro v33_2 _ e h ⟨k13,rfl,h_12⟩ hlt hw o ho
  unfold F192_2_B at ho;obtain⟨x15,gx15,ho⟩:=bS ho;obtain⟨w16a,w16b⟩:=qm gx15;obtain⟨x17,gx17,ho⟩:=bS ho;have w18:=s91 a1 v25_1 x15 gx17;obtain⟨x19,gx19,ho⟩:=bS ho;have w20:=s194 a0 a1 v25_1 x15 gx19;obtain⟨x21,gx21,ho⟩:=bS ho;have w22:=s175 a0 a1 v25_1 x15 gx21;obtain⟨x23,gx23,ho⟩:=bS ho;have w24:=s207 a0 a1 v25_1 x21 gx23;obtain⟨x25,gx25,ho⟩:=bS ho;have wx25:=qx gx25;obtain⟨x26,gx26,ho⟩:=bS ho;have w27:=s173 a1.Prime x15 x23 x25 gx26;obtain⟨x28,gx28,ho⟩:=bS ho;have w29:=s102 a1 v25_1 gx28;obtain⟨l30,gl30,ho⟩:=bS ho;obtain⟨w31a,w31b,w31c,w31d,w31e⟩:=mkL_w gl30;replace w31e:(List.replicate (Int.toNat x28) [V.int .i64 0]).flatten=List.map enc l30:=w31e;by_cases c32:0 < v25_1
  ·rw[if_pos c32]at ho
   obtain⟨x33,gx33,ho⟩:=bS ho;have wx33:=qx gx33;obtain⟨x34,gx34,ho⟩:=bS ho;have w35:=s194 a0 a1 x33 x17 gx34;obtain⟨x36,gx36,ho⟩:=bS ho;have w37:=s173 a1.Prime l30 x34 1 gx36;obtain⟨x38,gx38,ho⟩:=bS ho;have w39:=s175 a0 a1 x33 x17 gx38;obtain⟨x40,gx40,ho⟩:=bS ho;have w41:=s92 x38 gx40;cases x40 with
   |true=>
    rw[if_pos rfl]at ho;obtain⟨x42,gx42,ho⟩:=bS ho;have w43:=s86 a1 gx42;by_cases c44:v25_1 < x42
    ·rw[if_pos c44]at ho
     obtain⟨x45,gx45,ho⟩:=bS ho;have wx45:=qx gx45;obtain⟨x46,gx46,ho⟩:=bS ho;have w47:=s91 a1 x45 x19 gx46;obtain⟨x48,gx48,ho⟩:=bS ho;have w49:=s173 a1.Prime x36 x46 1 gx48;obtain⟨x50,gx50,ho⟩:=bS ho;have w51:=s194 a0 a1 x45 x19 gx50;obtain⟨x52,gx52,ho⟩:=bS ho;have w53:=s92 x50 gx52;cases x52 with
     |true=>
      rw[if_pos rfl]at ho;obtain⟨x54,gx54,ho⟩:=bS ho;have w55:=s175 a0 a1 x45 x19 gx54;obtain⟨x56,gx56,ho⟩:=bS ho;have w57:=s92 x54 gx56;cases x56 with
      |true=>
       rw[if_pos rfl]at ho;obtain⟨x58,gx58,ho⟩:=bS ho;have w59:=s165 x26 x48 gx58;cases x58 with
       |true=>
        rw[if_pos rfl]at ho;cases ho;simp only[simprocAttr, -Int.reduceNatCast',R0,ji,qG (α:=Int) l30,qF (α:=Int) (l:=l30) (n:=(Int.toNat x28)) (by first|rfl|simp only[w31d]),qD (α:=Int) (l:=l30) (n:=(Int.toNat x28)) (by first|rfl|simp only[w31d]), *];refine ai rfl (ei _ (ai rfl ?_));simp only[simprocAttr, -Int.reduceNatCast',R0,qG (α:=Int) l30,qF (α:=Int) (l:=l30) (n:=(Int.toNat x28)) (by first|rfl|simp only[w31d]),qD (α:=Int) (l:=l30) (n:=(Int.toNat x28)) (by first|rfl|simp only[w31d]), *]
       |false=>
        rw[if_neg wE]at ho;cases ho;simp only[simprocAttr, -Int.reduceNatCast',R0,ji,qG (α:=Int) l30,qF (α:=Int) (l:=l30) (n:=(Int.toNat x28)) (by first|rfl|simp only[w31d]),qD (α:=Int) (l:=l30) (n:=(Int.toNat x28)) (by first|rfl|simp only[w31d]), *];intro ht; subst ht;simp only[simprocAttr, -Int.reduceNatCast',RR,RB];exact ai rfl (qc (by simp only[simprocAttr, -Int.reduceNatCast',R0,qd,p192,Rs.ev,qa,qG (α:=Int) l30,qF (α:=Int) (l:=l30) (n:=(Int.toNat x28)) (by first|rfl|simp only[w31d]),qD (α:=Int) (l:=l30) (n:=(Int.toNat x28)) (by first|rfl|simp only[w31d]), *]))
      |false=>
       rw[if_neg wE]at ho;cases ho;simp only[simprocAttr, -Int.reduceNatCast',R0,ji,qG (α:=Int) l30,qF (α:=Int) (l:=l30) (n:=(Int.toNat x28)) (by first|rfl|simp only[w31d]),qD (α:=Int) (l:=l30) (n:=(Int.toNat x28)) (by first|rfl|simp only[w31d]), *];intro ht; subst ht;simp only[simprocAttr, -Int.reduceNatCast',RR,RB];exact ai rfl (qc (by simp only[simprocAttr, -Int.reduceNatCast',R0,qd,p192,Rs.ev,qa,qG (α:=Int) l30,qF (α:=Int) (l:=l30) (n:=(Int.toNat x28)) (by first|rfl|simp only[w31d]),qD (α:=Int) (l:=l30) (n:=(Int.toNat x28)) (by first|rfl|simp only[w31d]), *]))
     |false=>
      rw[if_neg wE]at ho;cases ho;simp only[simprocAttr, -Int.reduceNatCast',R0,ji,qG (α:=Int) l30,qF (α:=Int) (l:=l30) (n:=(Int.toNat x28)) (by first|rfl|simp only[w31d]),qD (α:=Int) (l:=l30) (n:=(Int.toNat x28)) (by first|rfl|simp only[w31d]), *];intro ht; subst ht;simp only[simprocAttr, -Int.reduceNatCast',RR,RB];exact ai rfl (qc (by simp only[simprocAttr, -Int.reduceNatCast',R0,qd,p192,Rs.ev,qa,qG (α:=Int) l30,qF (α:=Int) (l:=l30) (n:=(Int.toNat x28)) (by first|rfl|simp only[w31d]),qD (α:=Int) (l:=l30) (n:=(Int.toNat x28)) (by first|rfl|simp only[w31d]), *]))
    ·rw[if_neg c44]at ho
     obtain⟨x60,gx60,ho⟩:=bS ho;have w61:=s165 x26 x36 gx60;cases x60 with
     |true=>
      rw[if_pos rfl]at ho;cases ho;simp only[simprocAttr, -Int.reduceNatCast',R0,ji,qG (α:=Int) l30,qF (α:=Int) (l:=l30) (n:=(Int.toNat x28)) (by first|rfl|simp only[w31d]),qD (α:=Int) (l:=l30) (n:=(Int.toNat x28)) (by first|rfl|simp only[w31d]), *];refine ai rfl (ei _ (ai rfl ?_));simp only[simprocAttr, -Int.reduceNatCast',R0,qG (α:=Int) l30,qF (α:=Int) (l:=l30) (n:=(Int.toNat x28)) (by first|rfl|simp only[w31d]),qD (α:=Int) (l:=l30) (n:=(Int.toNat x28)) (by first|rfl|simp only[w31d]), *]
     |false=>
      rw[if_neg wE]at ho;cases ho;simp only[simprocAttr, -Int.reduceNatCast',R0,ji,qG (α:=Int) l30,qF (α:=Int) (l:=l30) (n:=(Int.toNat x28)) (by first|rfl|simp only[w31d]),qD (α:=Int) (l:=l30) (n:=(Int.toNat x28)) (by first|rfl|simp only[w31d]), *];intro ht; subst ht;simp only[simprocAttr, -Int.reduceNatCast',RR,RB];exact ai rfl (qc (by simp only[simprocAttr, -Int.reduceNatCast',R0,qd,p192,Rs.ev,qa,qG (α:=Int) l30,qF (α:=Int) (l:=l30) (n:=(Int.toNat x28)) (by first|rfl|simp only[w31d]),qD (α:=Int) (l:=l30) (n:=(Int.toNat x28)) (by first|rfl|simp only[w31d]), *]))
   |false=>
    rw[if_neg wE]at ho;cases ho;simp only[simprocAttr, -Int.reduceNatCast',R0,ji,qG (α:=Int) l30,qF (α:=Int) (l:=l30) (n:=(Int.toNat x28)) (by first|rfl|simp only[w31d]),qD (α:=Int) (l:=l30) (n:=(Int.toNat x28)) (by first|rfl|simp only[w31d]), *];intro ht; subst ht;simp only[simprocAttr, -Int.reduceNatCast',RR,RB];exact ai rfl (qc (by simp only[simprocAttr, -Int.reduceNatCast',R0,qd,p192,Rs.ev,qa,qG (α:=Int) l30,qF (α:=Int) (l:=l30) (n:=(Int.toNat x28)) (by first|rfl|simp only[w31d]),qD (α:=Int) (l:=l30) (n:=(Int.toNat x28)) (by first|rfl|simp only[w31d]), *]))
  ·rw[if_neg c32]at ho
   obtain⟨x62,gx62,ho⟩:=bS ho;have w63:=s86 a1 gx62;by_cases c64:v25_1 < x62
   ·rw[if_pos c64]at ho
    obtain⟨x65,gx65,ho⟩:=bS ho;have wx65:=qx gx65;obtain⟨x66,gx66,ho⟩:=bS ho;have w67:=s91 a1 x65 x19 gx66;obtain⟨x68,gx68,ho⟩:=bS ho;have w69:=s173 a1.Prime l30 x66 1 gx68;obtain⟨x70,gx70,ho⟩:=bS ho;have w71:=s194 a0 a1 x65 x19 gx70;obtain⟨x72,gx72,ho⟩:=bS ho;have w73:=s92 x70 gx72;cases x72 with
    |true=>
     rw[if_pos rfl]at ho;obtain⟨x74,gx74,ho⟩:=bS ho;have w75:=s175 a0 a1 x65 x19 gx74;obtain⟨x76,gx76,ho⟩:=bS ho;have w77:=s92 x74 gx76;cases x76 with
     |true=>
      rw[if_pos rfl]at ho;obtain⟨x78,gx78,ho⟩:=bS ho;have w79:=s165 x26 x68 gx78;cases x78 with
      |true=>
       rw[if_pos rfl]at ho;cases ho;simp only[simprocAttr, -Int.reduceNatCast',R0,ji,qG (α:=Int) l30,qF (α:=Int) (l:=l30) (n:=(Int.toNat x28)) (by first|rfl|simp only[w31d]),qD (α:=Int) (l:=l30) (n:=(Int.toNat x28)) (by first|rfl|simp only[w31d]), *];refine ai rfl (ei _ (ai rfl ?_));simp only[simprocAttr, -Int.reduceNatCast',R0,qG (α:=Int) l30,qF (α:=Int) (l:=l30) (n:=(Int.toNat x28)) (by first|rfl|simp only[w31d]),qD (α:=Int) (l:=l30) (n:=(Int.toNat x28)) (by first|rfl|simp only[w31d]), *]
      |false=>
       rw[if_neg wE]at ho;cases ho;simp only[simprocAttr, -Int.reduceNatCast',R0,ji,qG (α:=Int) l30,qF (α:=Int) (l:=l30) (n:=(Int.toNat x28)) (by first|rfl|simp only[w31d]),qD (α:=Int) (l:=l30) (n:=(Int.toNat x28)) (by first|rfl|simp only[w31d]), *];intro ht; subst ht;simp only[simprocAttr, -Int.reduceNatCast',RR,RB];exact ai rfl (qc (by simp only[simprocAttr, -Int.reduceNatCast',R0,qd,p192,Rs.ev,qa,qG (α:=Int) l30,qF (α:=Int) (l:=l30) (n:=(Int.toNat x28)) (by first|rfl|simp only[w31d]),qD (α:=Int) (l:=l30) (n:=(Int.toNat x28)) (by first|rfl|simp only[w31d]), *]))
     |false=>
      rw[if_neg wE]at ho;cases ho;simp only[simprocAttr, -Int.reduceNatCast',R0,ji,qG (α:=Int) l30,qF (α:=Int) (l:=l30) (n:=(Int.toNat x28)) (by first|rfl|simp only[w31d]),qD (α:=Int) (l:=l30) (n:=(Int.toNat x28)) (by first|rfl|simp only[w31d]), *];intro ht; subst ht;simp only[simprocAttr, -Int.reduceNatCast',RR,RB];exact ai rfl (qc (by simp only[simprocAttr, -Int.reduceNatCast',R0,qd,p192,Rs.ev,qa,qG (α:=Int) l30,qF (α:=Int) (l:=l30) (n:=(Int.toNat x28)) (by first|rfl|simp only[w31d]),qD (α:=Int) (l:=l30) (n:=(Int.toNat x28)) (by first|rfl|simp only[w31d]), *]))
    |false=>
     rw[if_neg wE]at ho;cases ho;simp only[simprocAttr, -Int.reduceNatCast',R0,ji,qG (α:=Int) l30,qF (α:=Int) (l:=l30) (n:=(Int.toNat x28)) (by first|rfl|simp only[w31d]),qD (α:=Int) (l:=l30) (n:=(Int.toNat x28)) (by first|rfl|simp only[w31d]), *];intro ht; subst ht;simp only[simprocAttr, -Int.reduceNatCast',RR,RB];exact ai rfl (qc (by simp only[simprocAttr, -Int.reduceNatCast',R0,qd,p192,Rs.ev,qa,qG (α:=Int) l30,qF (α:=Int) (l:=l30) (n:=(Int.toNat x28)) (by first|rfl|simp only[w31d]),qD (α:=Int) (l:=l30) (n:=(Int.toNat x28)) (by first|rfl|simp only[w31d]), *]))
   ·rw[if_neg c64]at ho
    obtain⟨x80,gx80,ho⟩:=bS ho;have w81:=s165 x26 l30 gx80;cases x80 with
    |true=>
     rw[if_pos rfl]at ho;cases ho;simp only[simprocAttr, -Int.reduceNatCast',R0,ji,frzs (α:=Int) l30,qF (α:=Int) (l:=l30) (n:=(Int.toNat x28)) (by first|rfl|simp only[w31d]),qD (α:=Int) (l:=l30) (n:=(Int.toNat x28)) (by first|rfl|simp only[w31d]), *];refine ai rfl (ei _ (ai rfl ?_));simp only[simprocAttr, -Int.reduceNatCast',R0,frzs (α:=Int) l30,qF (α:=Int) (l:=l30) (n:=(Int.toNat x28)) (by first|rfl|simp only[w31d]),qD (α:=Int) (l:=l30) (n:=(Int.toNat x28)) (by first|rfl|simp only[w31d]), *]
    |false=>
     rw[if_neg wE]at ho;cases ho;simp only[simprocAttr, -Int.reduceNatCast',R0,ji,frzs (α:=Int) l30,qF (α:=Int) (l:=l30) (n:=(Int.toNat x28)) (by first|rfl|simp only[w31d]),qD (α:=Int) (l:=l30) (n:=(Int.toNat x28)) (by first|rfl|simp only[w31d]), *];intro ht; subst ht;simp only[simprocAttr, -Int.reduceNatCast',RR,RB];exact ai rfl (qc (by simp only[simprocAttr, -Int.reduceNatCast',R0,qd,p192,Rs.ev,qa,frzs (α:=Int) l30,qF (α:=Int) (l:=l30) (n:=(Int.toNat x28)) (by first|rfl|simp only[w31d]),qD (α:=Int) (l:=l30) (n:=(Int.toNat x28)) (by first|rfl|simp only[w31d]), *]))
 ·rintro v33_2 _ e h ⟨k13,rfl,h_12⟩ hge t1 ho
  unfold F192_2_D at ho;cases ho;simp only[simprocAttr, -Int.reduceNatCast',R0,ji, *];intro ht; subst ht;refine ai rfl (ei _ (ai rfl ?_));simp only[simprocAttr, -Int.reduceNatCast',R0, *]
def I192_3(a0:qj)(a1:qh)(v25_1:Int)(x87:List (List Int))(v126_3:Int)(s:Unit)(e:Env)(h:Heap):Prop:=
 ∃k90:Nat,h=⟨[(0,none),(0,none)],k90⟩∧e.length=162∧e.at 2=V.iptr [V.isl (a0.Down.map enc),V.isl (a0.Up.map enc),V.isl (a0.Back.map enc)]∧e.at 3=V.iptr [V.int .i64 a1.Prime,V.isl (a1.Dims.map enc),V.isl (a1.Maps.map enc)]∧e.at 5=V.int .i64 a1.Prime∧e.at 6=V.int .i64 v25_1∧e.at 24=V.int .i64 (a1.Dims.length:Int)∧e.at 25=V.int .i64 v25_1∧e.at 124=V.isl (x87.map enc)∧e.at 125=V.int .i64 (x87.length:Int)∧e.at 126=V.int .i64 v126_3
def P192_3(a0:qj)(a1:qh)(v25_1:Int)(x87:List (List Int))(t:(Unit)⊕Bool)(x:Ex)(e:Env)(h:Heap):Prop:=
 match t with
 | .inl _=> x= .normal∧∃k90:Nat,h=⟨[(0,none),(0,none)],k90⟩∧e.length=162∧e.at 2=V.iptr [V.isl (a0.Down.map enc),V.isl (a0.Up.map enc),V.isl (a0.Back.map enc)]∧e.at 3=V.iptr [V.int .i64 a1.Prime,V.isl (a1.Dims.map enc),V.isl (a1.Maps.map enc)]∧e.at 5=V.int .i64 a1.Prime∧e.at 24=V.int .i64 (a1.Dims.length:Int)∧e.at 25=V.int .i64 v25_1
 | .inr r=> x= .ret∧Fin p192 (enc r) .ret e h
theorem l192_3(a0:qj)(a1:qh)(v25_1:Int)(x87:List (List Int)){lo:Int}{s:Unit}{t:(Unit)⊕Bool}(hF:forR lo (x87.length:Int) (F192_3_B a0 a1 v25_1 x87) (F192_3_D a0 a1 v25_1 x87) s=some t){e:Env}{h:Heap}(hI:I192_3 a0 a1 v25_1 x87 lo s e h):W A c192_3 e h (P192_3 a0 a1 v25_1 x87 t):=by
 show W A (.block 4 (.loop false b192_3)) e h _;rw[ql];refine qq hF 2 (by obtain⟨_,rfl,_⟩:=hI; rfl) (I192_3 a0 a1 v25_1 x87) hI ?_ ?_
 ·rintro v126_3 _ e h ⟨k90,rfl,h_89⟩ hlt hw o ho
  unfold F192_3_B at ho;obtain⟨x92,gx92,ho⟩:=bS ho;obtain⟨w93a,w93b⟩:=qm gx92;obtain⟨x94,gx94,ho⟩:=bS ho;have w95:=s207 a0 a1 v25_1 x92 gx94;obtain⟨x96,gx96,ho⟩:=bS ho;have w97:=s91 a1 v25_1 x94 gx96;obtain⟨x98,gx98,ho⟩:=bS ho;have w99:=s92 x96 gx98;cases x98 with
  |true=>
   rw[if_pos rfl]at ho;obtain⟨x100,gx100,ho⟩:=bS ho;have w101:=s175 a0 a1 v25_1 x94 gx100;obtain⟨x102,gx102,ho⟩:=bS ho;have w103:=s165 x100 x92 gx102;cases x102 with
   |true=>
    rw[if_pos rfl]at ho;obtain⟨x104,gx104,ho⟩:=bS ho;have w105:=s194 a0 a1 v25_1 x94 gx104;obtain⟨x106,gx106,ho⟩:=bS ho;have w107:=s92 x104 gx106;cases x106 with
    |true=>
     rw[if_pos rfl]at ho;cases ho;simp only[simprocAttr,R0,b192_3, *];refine ai rfl (ei _ (ai rfl ?_));simp only[simprocAttr,R0, *]
    |false=>
     rw[if_neg wE]at ho;cases ho;simp only[simprocAttr,R0,b192_3, *];intro ht; subst ht;simp only[simprocAttr,RR,RB];exact ai rfl (qc (by simp only[simprocAttr,R0,qd,p192,Rs.ev,qa, *]))
   |false=>
    rw[if_neg wE]at ho;cases ho;simp only[simprocAttr,R0,b192_3, *];intro ht; subst ht;simp only[simprocAttr,RR,RB];exact ai rfl (qc (by simp only[simprocAttr,R0,qd,p192,Rs.ev,qa, *]))
  |false=>
   rw[if_neg wE]at ho;cases ho;simp only[simprocAttr,R0,b192_3, *];intro ht; subst ht;simp only[simprocAttr,RR,RB];exact ai rfl (qc (by simp only[simprocAttr,R0,qd,p192,Rs.ev,qa, *]))
 ·rintro v126_3 _ e h ⟨k90,rfl,h_89⟩ hge t1 ho
  unfold F192_3_D at ho;cases ho;simp only[simprocAttr,R0,b192_3, *];intro ht; subst ht;refine ai rfl (ei _ (ai rfl ?_));simp only[simprocAttr,R0, *]
def I192_1(a0:qj)(a1:qh)(v25_1:Int)(s:Unit)(e:Env)(h:Heap):Prop:=
 ∃k6:Nat,h=⟨[(0,none),(0,none)],k6⟩∧e.length=162∧e.at 2=V.iptr [V.isl (a0.Down.map enc),V.isl (a0.Up.map enc),V.isl (a0.Back.map enc)]∧e.at 3=V.iptr [V.int .i64 a1.Prime,V.isl (a1.Dims.map enc),V.isl (a1.Maps.map enc)]∧e.at 5=V.int .i64 a1.Prime∧e.at 24=V.int .i64 (a1.Dims.length:Int)∧e.at 25=V.int .i64 v25_1
def P192_1(a0:qj)(a1:qh)(t:(Unit)⊕Bool)(x:Ex)(e:Env)(h:Heap):Prop:=
 match t with
 | .inl _=> x= .normal∧∃k6:Nat,h=⟨[(0,none),(0,none)],k6⟩∧e.length=162
 | .inr r=> x= .ret∧Fin p192 (enc r) .ret e h
theorem l192_1(a0:qj)(a1:qh){lo:Int}{s:Unit}{t:(Unit)⊕Bool}(hF:forR lo (a1.Dims.length:Int) (F192_1_B a0 a1) (F192_1_D a0 a1) s=some t){e:Env}{h:Heap}(hI:I192_1 a0 a1 lo s e h):W A c192_1 e h (P192_1 a0 a1 t):=by
 show W A (.block 0 (.loop false b192_1)) e h _;rw[ql];refine qq hF 2 (by obtain⟨_,rfl,_⟩:=hI; rfl) (I192_1 a0 a1) hI ?_ ?_
 ·rintro v25_1 _ e h ⟨k6,rfl,h_5⟩ hlt hw o ho
  unfold F192_1_B at ho;obtain⟨x8,gx8,ho⟩:=bS ho;have w9:=s102 a1 v25_1 gx8;obtain⟨x10,gx10,ho⟩:=bS ho;have w11:=s124 x8 gx10;obtain⟨t82,gt82,ho⟩:=bS ho;rcases t82 with _|r110
  ·dsimp only at ho
   simp only[simprocAttr,R0,b192_1, *];refine W.mono (l192_2 a0 a1 v25_1 x10 gt82 (ei _ (ai rfl ?_))) ?_
   ·simp only[simprocAttr,R0, *]
   rintro _ e _ ⟨rfl,k13,rfl,h_14⟩;obtain⟨x83,gx83,ho⟩:=bS ho;obtain⟨w84a,w84b⟩:=qm gx83;have w86:=s89 x83 rfl;obtain⟨x87,gx87,ho⟩:=bS ho;have w88:=s124 (x83.length:Int) gx87;obtain⟨t108,gt108,ho⟩:=bS ho;rcases t108 with _|r109
   ·dsimp only at ho
    simp only[simprocAttr,R0, *];refine W.mono (l192_3 a0 a1 v25_1 x87 gt108 (ei _ (ai rfl ?_))) ?_
    ·simp only[simprocAttr,R0, *]
    rintro _ e _ ⟨rfl,k90,rfl,h_91⟩;cases ho;simp only[simprocAttr,R0, *];refine ai rfl (ei _ (ai rfl ?_));simp only[simprocAttr,R0, *]
   ·dsimp only at ho
    cases ho;simp only[simprocAttr,R0, *];refine W.mono (l192_3 a0 a1 v25_1 x87 gt108 (ei _ (ai rfl ?_))) ?_
    ·simp only[simprocAttr,R0, *]
    rintro _ e h ⟨rfl,hq⟩;simp only[simprocAttr,RR,RB];intro ht; subst ht;simp only[simprocAttr,RR,RB];exact ai rfl hq
  ·dsimp only at ho
   cases ho;simp only[simprocAttr,R0,b192_1, *];refine W.mono (l192_2 a0 a1 v25_1 x10 gt82 (ei _ (ai rfl ?_))) ?_
   ·simp only[simprocAttr,R0, *]
   rintro _ e h ⟨rfl,hq⟩;simp only[simprocAttr,RR,RB];intro ht; subst ht;simp only[simprocAttr,RR,RB];exact ai rfl hq
 ·rintro v25_1 _ e h ⟨k6,rfl,h_5⟩ hge t1 ho
  unfold F192_1_D at ho;cases ho;simp only[simprocAttr,R0,b192_1, *];intro ht; subst ht;refine ai rfl (ei _ (ai rfl ?_));simp only[simprocAttr,R0, *]
theorem s192(a0:qj)(a1:qh){r:Bool}(hF:F192 a0 a1=some r):ans A 192 [(eK a0),(eC a1)]=some (enc r):=by
 refine qp (f:=p192) rfl rfl rfl fun e hl he=>?_;have h0_0:e.at 0=(eK a0):=he 0 _ rfl;have h1_0:e.at 1=(eC a1):=he 1 _ rfl;have hl_0:e.length=162:=hl;clear he hl;have h_0:=ai hl_0 (ai h0_0 h1_0);show W A b192 e ⟨[],0⟩ _;unfold F192 at hF;obtain⟨x1,gx1,hF⟩:=bS hF;have w2:=s206 a0 a1 gx1;cases x1 with
 |true=>
  rw[if_pos rfl]at hF;have w4:=s73 a1.Dims rfl;obtain⟨t111,gt111,hF⟩:=bS hF;rcases t111 with _|r112
  ·dsimp only at hF
   simp only[simprocAttr,R0,b192, *];refine W.mono (l192_1 a0 a1 gt111 (ei _ (ai rfl ?_))) ?_
   ·simp only[simprocAttr,R0, *]
   rintro _ e _ ⟨rfl,k6,rfl,hl_7⟩;cases hF;simp only[simprocAttr,R0, *];exact qc (by simp only[simprocAttr,R0,qd,p192,Rs.ev,qa, *])
  ·dsimp only at hF
   cases hF;simp only[simprocAttr,R0,b192, *];refine W.mono (l192_1 a0 a1 gt111 (ei _ (ai rfl ?_))) ?_
   ·simp only[simprocAttr,R0, *]
   rintro _ e h ⟨rfl,hq⟩;simp only[simprocAttr,RR,RB];exact hq
 |false=>
  rw[if_neg wE]at hF;cases hF;simp only[simprocAttr,R0,b192, *];exact qc (by simp only[simprocAttr,R0,qd,p192,Rs.ev,qa, *])
def F174(a0:qj)(a1:qh)(a2:qh)(a3:Int)(a4:List Int):Option (List Int):=
 (F86 a1).bind fun x1=>
 if x1≤a3 then
  (F102 a1 a3).bind fun x4=>
  (mkL 8 x4 0).bind fun l6=>
  some l6
 else
  (chk (a3+1)).bind fun x8=>
  (F194 a0 a1 a3 a4).bind fun x9=>
  (F91 a2 x8 x9).bind fun x11=>
  some x11
theorem s174(a0:qj)(a1:qh)(a2:qh)(a3:Int)(a4:List Int){r:List Int}(hF:F174 a0 a1 a2 a3 a4=some r):ans A 174 [(eK a0),(eC a1),(eC a2),V.int .i64 a3,V.isl (a4.map enc)]=some (enc r):=by
 refine qp (f:=p174) rfl rfl rfl fun e hl he=>?_;have h0_0:e.at 0=(eK a0):=he 0 _ rfl;have h1_0:e.at 1=(eC a1):=he 1 _ rfl;have h2_0:e.at 2=(eC a2):=he 2 _ rfl;have h3_0:e.at 3=V.int .i64 a3:=he 3 _ rfl;have h4_0:e.at 4=V.isl (a4.map enc):=he 4 _ rfl;have hl_0:e.length=28:=hl;clear he hl;show W A b174 e ⟨[],0⟩ _;unfold F174 at hF;obtain⟨x1,gx1,hF⟩:=bS hF;have w2:=s86 a1 gx1;by_cases c3:x1≤a3
 ·rw[if_pos c3]at hF
  obtain⟨x4,gx4,hF⟩:=bS hF;have w5:=s102 a1 a3 gx4;obtain⟨l6,gl6,hF⟩:=bS hF;obtain⟨w7a,w7b,w7c,w7d,w7e⟩:=mkL_w gl6;replace w7e:(List.replicate (Int.toNat x4) [V.int .i64 0]).flatten=List.map enc l6:=w7e;have hE:=wB hF; subst hE;simp only[simprocAttr, -Int.reduceNatCast',R0,b174, *];exact qc (by simp only[simprocAttr, -Int.reduceNatCast',R0,qd,p174,Rs.ev,qa,frzs (α:=Int) l6,qG (α:=Int) l6,qF (α:=Int) (l:=l6) (n:=(Int.toNat x4)) (by first|rfl|simp only[w7d]), *])
 ·rw[if_neg c3]at hF
  obtain⟨x8,gx8,hF⟩:=bS hF;have wx8:=qx gx8;obtain⟨x9,gx9,hF⟩:=bS hF;have w10:=s194 a0 a1 a3 a4 gx9;obtain⟨x11,gx11,hF⟩:=bS hF;have w12:tans A 91 [1] [(eC a2),V.int .i64 x8,V.isl (x9.map enc)]=some (V.isl (x11.map enc)):=t91 a2 x8 x9 gx11;have w12t:=qY (α:=Int) x11;have hE:=wB hF; subst hE;simp only[simprocAttr, -Int.reduceNatCast',R0,b174, *];exact qc (by simp only[simprocAttr, -Int.reduceNatCast',R0,qd,p174,Rs.ev,qa,frzs (α:=Int) x11,qG (α:=Int) x11, *])
theorem t174(a0:qj)(a1:qh)(a2:qh)(a3:Int)(a4:List Int){r:List Int}(hF:F174 a0 a1 a2 a3 a4=some r):tans A 174 [1] [(eK a0),(eC a1),(eC a2),V.int .i64 a3,V.isl (a4.map enc)]=some (enc r):=by
 refine tans_of (f:=p174) rfl rfl rfl fun e hl he=>?_;have h0_0:e.at 0=(eK a0):=he 0 _ rfl;have h1_0:e.at 1=(eC a1):=he 1 _ rfl;have h2_0:e.at 2=(eC a2):=he 2 _ rfl;have h3_0:e.at 3=V.int .i64 a3:=he 3 _ rfl;have h4_0:e.at 4=V.isl (a4.map enc):=he 4 _ rfl;have hl_0:e.length=28:=hl;clear he hl;show W A b174 e ⟨[],0⟩ _;unfold F174 at hF;obtain⟨x1,gx1,hF⟩:=bS hF;have w2:=s86 a1 gx1;by_cases c3:x1≤a3
 ·rw[if_pos c3]at hF
  obtain⟨x4,gx4,hF⟩:=bS hF;have w5:=s102 a1 a3 gx4;obtain⟨l6,gl6,hF⟩:=bS hF;obtain⟨w7a,w7b,w7c,w7d,w7e⟩:=mkL_w gl6;replace w7e:(List.replicate (Int.toNat x4) [V.int .i64 0]).flatten=List.map enc l6:=w7e;have hE:=wB hF; subst hE;simp only[simprocAttr, -Int.reduceNatCast',R0,b174, *];exact jl (by simp only[simprocAttr, -Int.reduceNatCast',R0,qd,p174,Rs.ev,qa,frzs (α:=Int) l6,qG (α:=Int) l6,qF (α:=Int) (l:=l6) (n:=(Int.toNat x4)) (by first|rfl|simp only[w7d]), *])
 ·rw[if_neg c3]at hF
  obtain⟨x8,gx8,hF⟩:=bS hF;have wx8:=qx gx8;obtain⟨x9,gx9,hF⟩:=bS hF;have w10:=s194 a0 a1 a3 a4 gx9;obtain⟨x11,gx11,hF⟩:=bS hF;have w12:tans A 91 [1] [(eC a2),V.int .i64 x8,V.isl (x9.map enc)]=some (V.isl (x11.map enc)):=t91 a2 x8 x9 gx11;have w12t:=qY (α:=Int) x11;have hE:=wB hF; subst hE;simp only[simprocAttr, -Int.reduceNatCast',R0,b174, *];exact jl (by simp only[simprocAttr, -Int.reduceNatCast',R0,qd,p174,Rs.ev,qa,frzs (α:=Int) x11,qG (α:=Int) x11, *])
def F212_1_B(a0:List (List (List Int)))(f1:(List (List Int))→Option Bool)(v8_1:Int)(s:Unit):Option ((Unit)⊕((Unit)⊕Int)):=
 (getI a0 v8_1).bind fun x4=>
(f1 x4).bind fun x6=>
if x6=true then
 some (.inr (.inr v8_1))
else
 some (.inl ())
def F212_1_D(a0:List (List (List Int)))(f1:(List (List Int))→Option Bool)(v8_1:Int)(s:Unit):Option ((Unit)⊕Int):=
 some (.inl ())
def F212(a0:List (List (List Int)))(f1:(List (List Int))→Option Bool):Option Int:=
 (forR 0 (a0.length:Int) (F212_1_B a0 f1) (F212_1_D a0 f1) ()).bind fun t8=> match t8 with
  | .inl _=>
   some (-1)
  | .inr r9=> some r9
def I212_1(a0:List (List (List Int)))(f1:(List (List Int))→Option Bool)(vf1:V)(v8_1:Int)(s:Unit)(e:Env)(h:Heap):Prop:=
 ∃k2:Nat,h=⟨[],k2⟩∧e.length=19∧e.at 0=V.isl (a0.map enc)∧e.at 1=vf1∧e.at 7=V.int .i64 (a0.length:Int)∧e.at 8=V.int .i64 v8_1
def P212_1(a0:List (List (List Int)))(f1:(List (List Int))→Option Bool)(vf1:V)(t:(Unit)⊕Int)(x:Ex)(e:Env)(h:Heap):Prop:=
 match t with
 | .inl _=> x= .normal∧∃k2:Nat,h=⟨[],k2⟩∧e.length=19
 | .inr r=> x= .ret∧Fin p212 (enc r) .ret e h
theorem l212_1(a0:List (List (List Int)))(f1:(List (List Int))→Option Bool)(vf1:V)(hf1:Clo1 A vf1 f1){lo:Int}{s:Unit}{t:(Unit)⊕Int}(hF:forR lo (a0.length:Int) (F212_1_B a0 f1) (F212_1_D a0 f1) s=some t){e:Env}{h:Heap}(hI:I212_1 a0 f1 vf1 lo s e h):W A c212_1 e h (P212_1 a0 f1 vf1 t):=by
 obtain⟨g_f1,fs_f1,cs_f1,hv_f1,hc_f1⟩:=id hf1;show W A (.block 0 (.loop false b212_1)) e h _;rw[ql];refine qq hF 0 (by obtain⟨_,rfl,_⟩:=hI; rfl) (I212_1 a0 f1 vf1) hI ?_ ?_
 ·rintro v8_1 _ e h ⟨k2,rfl,h_1⟩ hlt hw o ho
  unfold F212_1_B at ho;obtain⟨x4,gx4,ho⟩:=bS ho;obtain⟨w5a,w5b⟩:=qm gx4;obtain⟨x6,gx6,ho⟩:=bS ho;have w7a:∀h,mapO (frz h 16) (fs_f1++[V.isl (x4.map enc)]++cs_f1)=some (fs_f1++[V.isl (x4.map enc)]++cs_f1):=fun h=> hc_f1.zf x4 h;have w7b:List.all (fs_f1++[V.isl (x4.map enc)]++cs_f1) (qu 16)=true:=hc_f1.zr x4;have w7c:ans A g_f1 (fs_f1++[V.isl (x4.map enc)]++cs_f1)=some (V.bool x6):=hc_f1.ka x4 _ gx6;cases x6 with
  |true=>
   rw[if_pos rfl]at ho;cases ho;simp only[simprocAttr,R0,b212_1, *];intro ht; subst ht;simp only[simprocAttr,RR,RB];exact ai rfl (qc (by simp only[simprocAttr,R0,qd,p212,Rs.ev,qa, *]))
  |false=>
   rw[if_neg wE]at ho;cases ho;simp only[simprocAttr,R0,b212_1, *];refine ai rfl (ei _ (ai rfl ?_));simp only[simprocAttr,R0, *]
 ·rintro v8_1 _ e h ⟨k2,rfl,h_1⟩ hge t1 ho
  unfold F212_1_D at ho;cases ho;simp only[simprocAttr,R0,b212_1, *];intro ht; subst ht;refine ai rfl (ei _ (ai rfl ?_));simp only[simprocAttr,R0, *]
theorem s212(a0:List (List (List Int)))(f1:(List (List Int))→Option Bool){vf1:V}(hf1:Clo1 A vf1 f1){r:Int}(hF:F212 a0 f1=some r):ans A 212 [V.isl (a0.map enc),vf1]=some (enc r):=by
 refine qp (f:=p212) rfl rfl rfl fun e hl he=>?_;have h0_0:e.at 0=V.isl (a0.map enc):=he 0 _ rfl;have h1_0:e.at 1=vf1:=he 1 _ rfl;obtain⟨g_f1,fs_f1,cs_f1,hv_f1,hc_f1⟩:=id hf1;have hl_0:e.length=19:=hl;clear he hl;have h_0:=ai hl_0 (ai h0_0 h1_0);show W A b212 e ⟨[],0⟩ _;unfold F212 at hF;obtain⟨t8,gt8,hF⟩:=bS hF;rcases t8 with _|r9
 ·dsimp only at hF
  simp only[simprocAttr,R0,b212, *];refine W.mono (l212_1 a0 f1 vf1 hf1 gt8 (ei _ (ai rfl ?_))) ?_
  ·simp only[simprocAttr,R0, *]
  rintro _ e _ ⟨rfl,k2,rfl,hl_3⟩;cases hF;simp only[simprocAttr,R0, *];exact qc (by simp only[simprocAttr,R0,qd,p212,Rs.ev,qa, *])
 ·dsimp only at hF
  cases hF;simp only[simprocAttr,R0,b212, *];refine W.mono (l212_1 a0 f1 vf1 hf1 gt8 (ei _ (ai rfl ?_))) ?_
  ·simp only[simprocAttr,R0, *]
  rintro _ e h ⟨rfl,hq⟩;simp only[simprocAttr,RR,RB];exact hq
def F208(a0:List (List (List Int)))(f1:(List (List Int))→Option Bool):Option Bool:=
 (F212 a0 f1).bind fun x1=>
 some (decide (0≤x1))
theorem s208(a0:List (List (List Int)))(f1:(List (List Int))→Option Bool){vf1:V}(hf1:Clo1 A vf1 f1){r:Bool}(hF:F208 a0 f1=some r):ans A 208 [V.isl (a0.map enc),vf1]=some (enc r):=by
 refine qp (f:=p208) rfl rfl rfl fun e hl he=>?_;have h0_0:e.at 0=V.isl (a0.map enc):=he 0 _ rfl;have h1_0:e.at 1=vf1:=he 1 _ rfl;obtain⟨g_f1,fs_f1,cs_f1,hv_f1,hc_f1⟩:=id hf1;have hl_0:e.length=9:=hl;clear he hl;show W A b208 e ⟨[],0⟩ _;unfold F208 at hF;obtain⟨x1,gx1,hF⟩:=bS hF;have w2:ans A 212 [V.isl (a0.map enc),vf1]=some (V.int .i64 x1):=s212 a0 f1 hf1 gx1;cases hF;simp only[simprocAttr,R0,b208,hl_0,h0_0,h1_0,hf1.fz,hf1.rl,w2];exact qc (by simp only[simprocAttr,R0,qd,p208,Rs.ev,qa,hl_0,h0_0,h1_0,hf1.fz,hf1.rl,w2])
def F213(a0:List Int):Option Bool:=
 (F92 a0).bind fun x1=>
 some (!x1)
theorem s213(a0:List Int){r:Bool}(hF:F213 a0=some r):ans A 213 [V.isl (a0.map enc)]=some (enc r):=by
 refine qp (f:=p213) rfl rfl rfl fun e hl he=>?_;have h0_0:e.at 0=V.isl (a0.map enc):=he 0 _ rfl;have hl_0:e.length=6:=hl;clear he hl;show W A b213 e ⟨[],0⟩ _;unfold F213 at hF;obtain⟨x1,gx1,hF⟩:=bS hF;have w2:=s92 a0 gx1;cases hF;simp only[simprocAttr,R0,b213, *];exact qc (by simp only[simprocAttr,R0,qd,p213,Rs.ev,qa, *])
def F209(a0:List (List Int)):Option Bool:=
 (F117 a0 (fun x=> F213 x)).bind fun x1=>
 some x1
theorem s209(a0:List (List Int)){r:Bool}(hF:F209 a0=some r):ans A 209 [V.isl (a0.map enc)]=some (enc r):=by
 refine qp (f:=p209) rfl rfl rfl fun e hl he=>?_;have h0_0:e.at 0=V.isl (a0.map enc):=he 0 _ rfl;have hl_0:e.length=5:=hl;clear he hl;show W A b209 e ⟨[],0⟩ _;unfold F209 at hF;obtain⟨x1,gx1,hF⟩:=bS hF;have w2:ans A 117 [V.isl (a0.map enc),V.fn 213 [] []]=some (V.bool x1):=s117 a0 (fun x=> F213 x) (Clo1.of (by intro h f; simp only[RZ,mapO]) (by intro h f; simp only[RZ,mapO]) (by intro f; simp only[RZ,RB]) (by intro f; simp only[RZ,RB]) (fun x _ hr=> s213 x hr)) gx1;cases hF;simp only[simprocAttr,R0,b209, *];exact qc (by simp only[simprocAttr,R0,qd,p209,Rs.ev,qa, *])
def F193_1_B(x:qh)(i:Int)(s:List (List (List Int))):Option (List (List (List Int))⊕List (List (List Int))):=(getI x.Dims i).bind fun d=>(F124 d).bind fun u=>(app 24 s [u]).bind fun r=> some (.inl r)
def F193_1_D(i:Int)(s:List (List (List Int))):Option (List (List (List Int))):=some s
def F193_4_B(c:qj)(x y:qh)(n:Int)(i:Int)(l:List (List Int)):Option (List (List Int)⊕List (List Int)):=(getI l i).bind fun v=>(F174 c x y n v).bind fun w=>(setI l i w).bind fun l'=> some (.inl l')
def F193_4_D(i:Int)(l:List (List Int)):Option (List (List Int)):=some l
def F193_3_B(c:qj)(x y:qh)(n:Int)(s:List (List (List Int))):Option (List (List (List Int))⊕List (List (List Int))):=(getI s n).bind fun l=>(forR 0 (l.length:Int) (F193_4_B c x y n) F193_4_D l).bind fun l'=>(setI s n l').bind fun s'=> some (.inl s')
def F193_3_D(n:Int)(s:List (List (List Int))):Option (List (List (List Int))):=some s
def F193_2_B(c:qj)(x y:qh)(k:Int)(s:List (List (List Int))):Option (List (List (List Int))⊕(Unit⊕T2 Int Bool)):=(F208 s fun l=> F209 l).bind fun b=> if b=true then(forR 0 (s.length:Int) (F193_3_B c x y) F193_3_D s).bind fun s'=> some (.inl s')else some (.inr (.inr ⟨k,true⟩))
def F193_2_D(k:Int)(s:List (List (List Int))):Option (Unit⊕T2 Int Bool):=some (.inl ())
def F193(a0:qj)(a1 a2:qh):Option (T2 Int Bool):=(forR 0 (a1.Dims.length:Int) (F193_1_B a1) F193_1_D []).bind fun s=>(forR 0 10 (F193_2_B a0 a1 a2) F193_2_D s).bind fun t=> match t with
 | .inl _=> some ⟨0,false⟩
 | .inr r=> some r
theorem swap193{α:Type}[Enc α][Deep α][One α]{h:Heap}{v:V}{l:List α}{K:Ks}{i:Nat}{a:α}(r:Deep.rep h v l K)(hi:l[i]? =some a):∃key uid vs x,∃K1 K2:Ks,v= .sl key uid 0 l.length 1∧h.ents[key]? =some (uid,some vs)∧vs[i]? =some x∧vs.length=l.length∧Deep.rep h x a K1∧(∀k,K1 k→¬K2 k∧k≠key)∧¬K2 key∧(∀k,K k↔k=key∨K1 k∨K2 k)∧
  ∀ (h':Heap) (x':V) (a':α) (K1':Ks),Deep.rep h' x' a' K1'→h'.ents[key]? =some (uid,some (vs.set i x'))→(∀k,K2 k→h'.ents[k]? =h.ents[k]?)→(∀k,K1' k→¬K2 k∧k≠key)→Deep.rep h' v (l.set i a') (fun k=> k=key∨K1' k∨K2 k):=by
 obtain⟨hlt,rfl⟩:=List.getElem?_eq_some_iff.1 hi;rcases r with⟨rfl,rfl,_⟩|⟨key,uid,vs,K',rfl,h2,h3,h4,h5⟩
 ·exact absurd hlt (by simp)
 ·obtain⟨x,K1,K2,f1,f2,f3,f4,f5⟩:=h3.focus hlt
  refine⟨key,uid,vs,x,K1,K2,rfl,h2,f1,h3.len,f2,fun k q=>⟨f3 k q,fun e=> h4 ((f4 key).2 (.inl (e▸q)))⟩,fun q=> h4 ((f4 key).2 (.inr q)),fun k=>(h5 k).trans (or_congr_right (f4 k)),fun h' x' a' K1' q1 q2 q3 q4=>?_⟩;have e:(V.sl key uid 0 l.length 1)= .sl key uid 0 (l.set i a').length 1:=by rw[yB]
  rw[e];exact .inr ⟨key,uid,_,fun k=> K1' k∨K2 k,rfl,q2,f5 h' x' a' K1' _ q1 q3 (fun k q=>(q4 k q).1) (fun k=> vU),fun q=> q.elim (fun q=>(q4 key q).2 rfl) (fun q=> h4 ((f4 key).2 (.inr q))),fun k=> vU⟩
theorem l193_4(a0:qj)(a1 a2:qh){n:Int}{l l':List (List Int)}(hF:forR 0 (l.length:Int) (F193_4_B a0 a1 a2 n) F193_4_D l=some l'){Z:Ks}{h0:Heap}{e:Env}{v8 x1 z10 z11 z37 z38 z39:V}{K1:Ks}(hr:Deep.rep h0 x1 l K1)(hz:∀k,K1 k→¬Z k)(hzb:∀k,Z k→k < h0.ents.length)
  (hl:e.length=63) (h3:e.at 3=V.iptr [V.isl (a0.Down.map enc),V.isl (a0.Up.map enc),V.isl (a0.Back.map enc)]) (h4:e.at 4=V.iptr [V.int .i64 a1.Prime,V.isl (a1.Dims.map enc),V.isl (a1.Maps.map enc)]) (h5:e.at 5=V.iptr [V.int .i64 a2.Prime,V.isl (a2.Dims.map enc),V.isl (a2.Maps.map enc)]) (h8:e.at 8=v8) (h11:e.at 11=z11) (h12:e.at 12=V.int .i64 n) (h13:e.at 13=x1) (h30:e.at 30=z10) (h37:e.at 37=z37) (h38:e.at 38=z38) (h39:e.at 39=z39) (h44:e.at 44=x1) (h45:e.at 45=V.int .i64 (l.length:Int)) (h46:e.at 46=V.int .i64 0):
  W A (.block 6 (.loop true b193_4)) e h0 (fun x e h=> x= .normal∧(∃K1:Ks,Deep.rep h x1 l' K1∧∀k,K1 k→¬Z k)∧(∀k,Z k→h.ents[k]? =h0.ents[k]?)∧h0.ents.length≤h.ents.length∧e.length=63∧e.at 3=V.iptr [V.isl (a0.Down.map enc),V.isl (a0.Up.map enc),V.isl (a0.Back.map enc)]∧e.at 4=V.iptr [V.int .i64 a1.Prime,V.isl (a1.Dims.map enc),V.isl (a1.Maps.map enc)]∧e.at 5=V.iptr [V.int .i64 a2.Prime,V.isl (a2.Dims.map enc),V.isl (a2.Maps.map enc)]∧e.at 8=v8∧e.at 11=z11∧e.at 30=z10∧e.at 37=z37∧e.at 38=z38∧e.at 39=z39):=by
 rw[ql];refine qq hF _ rfl (fun i s e h=> s.length=l.length∧(∃K1:Ks,Deep.rep h x1 s K1∧∀k,K1 k→¬Z k)∧(∀k,Z k→h.ents[k]? =h0.ents[k]?)∧h0.ents.length≤h.ents.length∧e.length=63∧e.at 3=V.iptr [V.isl (a0.Down.map enc),V.isl (a0.Up.map enc),V.isl (a0.Back.map enc)]∧e.at 4=V.iptr [V.int .i64 a1.Prime,V.isl (a1.Dims.map enc),V.isl (a1.Maps.map enc)]∧e.at 5=V.iptr [V.int .i64 a2.Prime,V.isl (a2.Dims.map enc),V.isl (a2.Maps.map enc)]∧e.at 8=v8∧e.at 11=z11∧e.at 12=V.int .i64 n∧e.at 13=x1∧e.at 30=z10∧e.at 37=z37∧e.at 38=z38∧e.at 39=z39∧e.at 44=x1∧e.at 45=V.int .i64 (l.length:Int)∧e.at 46=V.int .i64 i) ⟨rfl,⟨K1,hr,hz⟩,fun _ _=> rfl,wG _,hl,h3,h4,h5,h8,h11,h12,h13,h30,h37,h38,h39,h44,h45,h46⟩ ?_ ?_
 ·clear hr hz hl h3 h4 h5 h8 h11 h12 h13 h30 h37 h38 h39 h44 h45 h46
  rintro i s e ⟨E,c⟩ ⟨hsl,⟨K1,r1,r2⟩,r3,r4,h_1⟩ hlt hw o ho;simp only at r3 r4;unfold F193_4_B at ho;obtain⟨v,gv,ho⟩:=bS ho;obtain⟨va,vb⟩:=qm gv;have vc:=qM gv;obtain⟨w,gw,ho⟩:=bS ho;have ww:tans A 174 [1] [(eK a0),(eC a1),(eC a2),V.int .i64 n,V.isl (v.map enc)]=some (V.isl (w.map enc)):=t174 a0 a1 a2 n v gw;obtain⟨s',gs,ho⟩:=bS ho;have es:=jI gs;cases ho;obtain⟨key,uid,vs,xv,Kv,K2,hx,q1,q2,q3,q4,q5,q6,q7,q8⟩:=swap193 r1 vb;simp only at q1;have hk:key < E.length:=(List.getElem?_eq_some_iff.1 q1).1;have zv:frz ⟨E,c⟩ 16 xv=some (V.isl (v.map enc)):=Deep.fz q4 11;have wb:bare 16 [1] (V.isl (w.map enc))=true:=bare_one (α:=Int) w;have oc:=qz q2;have hk2:(E++[(c,some (w.map enc))])[key]? =some (uid,some vs):=(List.getElem?_append_left hk).trans q1;have hlv:i.toNat < vs.length:=by omega
  have e1:List.take i.toNat vs++[V.sl E.length c 0 w.length 1]++List.drop (i.toNat+1) vs=vs.set i.toNat (V.sl E.length c 0 w.length 1):=by rw[List.set_eq_take_append_cons_drop,if_pos hlv]; simp
  have hle:i.toNat+1≤vs.length:=hlv;simp only[simprocAttr,R0,b193_4,h_1,eq_true hlt,hw,hx,va,eq_true vc,q1,oc,zv,ww,wb,qK,qY,hk2,e1,eq_true hle];have hks:((E++[(c,some (w.map enc))]).set key (uid,some (vs.set i.toNat (V.sl E.length c 0 w.length 1))))[key]? =some (uid,some (vs.set i.toNat (V.sl E.length c 0 w.length 1))):=qt (by simp; omega);have old:∀k,k < E.length→k≠key→((E++[(c,some (w.map enc))]).set key (uid,some (vs.set i.toNat (V.sl E.length c 0 w.length 1))))[k]? =E[k]?:=fun k a b=> qI b a;have lst:((E++[(c,some (w.map enc))]).set key (uid,some (vs.set i.toNat (V.sl E.length c 0 w.length 1))))[E.length]? =some (c,some (w.map enc)):=(qC (by omega)).trans (qy _ _);have rr:=q8 ⟨(E++[(c,some (w.map enc))]).set key (uid,some (vs.set i.toNat (V.sl E.length c 0 w.length 1))),c+1⟩ (V.sl E.length c 0 w.length 1) w (fun k=> k=E.length) (zh (l:=w) lst fun k=> vU) hks (fun k q=> old k (Deep.bd r1 ((q7 k).2 (.inr (.inr q)))) (fun e=> q6 (e▸q))) (fun k q=> by
   subst q;exact⟨fun q=> by have:=Deep.bd r1 ((q7 _).2 (.inr (.inr q))); simp only at this; omega,by omega⟩)
  rw[←es,hx]at rr;refine ai rfl ⟨by rw[es,yB]; exact hsl,⟨_,rr,fun k q z=>?_⟩,fun k z=>?_,by simp; omega,?_⟩
  ·rcases q with q|q|q
   ·exact r2 k ((q7 k).2 (.inl q)) z
   ·have:=hzb k z; omega
   ·exact r2 k ((q7 k).2 (.inr (.inr q))) z
  ·exact(old k (by have:=hzb k z; omega) (fun e=> r2 key ((q7 key).2 (.inl rfl)) (e▸z))).trans (r3 k z)
  ·simp only[simprocAttr,R0,h_1,hw]
   simp only[hx]
 ·clear hr hz hl h3 h4 h5 h8 h11 h12 h13 h30 h37 h38 h39 h44 h45 h46
  rintro i s e ⟨E,c⟩ ⟨hsl,r1,r3,r4,h_1⟩ hge t1 ho;unfold F193_4_D at ho;cases ho;simp only[simprocAttr,R0,b193_4,h_1,eq_false hge];intro ht; subst ht;exact⟨r1,r3,r4⟩
theorem l193_3(a0:qj)(a1 a2:qh){s0 s1:List (List (List Int))}(hF:forR 0 (s0.length:Int) (F193_3_B a0 a1 a2) F193_3_D s0=some s1){h0:Heap}{e:Env}{v8 z10 z11:V}{K0:Ks}(hr:Deep.rep h0 v8 s0 K0)
  (hl:e.length=63) (h3:e.at 3=V.iptr [V.isl (a0.Down.map enc),V.isl (a0.Up.map enc),V.isl (a0.Back.map enc)]) (h4:e.at 4=V.iptr [V.int .i64 a1.Prime,V.isl (a1.Dims.map enc),V.isl (a1.Maps.map enc)]) (h5:e.at 5=V.iptr [V.int .i64 a2.Prime,V.isl (a2.Dims.map enc),V.isl (a2.Maps.map enc)]) (h8:e.at 8=v8) (h11:e.at 11=z11) (h30:e.at 30=z10) (h37:e.at 37=v8) (h38:e.at 38=V.int .i64 (s0.length:Int)) (h39:e.at 39=V.int .i64 0):
  W A (.block 4 (.loop true b193_3)) e h0 (fun x e h=> x= .normal∧(∃K,Deep.rep h v8 s1 K)∧e.length=63∧e.at 3=V.iptr [V.isl (a0.Down.map enc),V.isl (a0.Up.map enc),V.isl (a0.Back.map enc)]∧e.at 4=V.iptr [V.int .i64 a1.Prime,V.isl (a1.Dims.map enc),V.isl (a1.Maps.map enc)]∧e.at 5=V.iptr [V.int .i64 a2.Prime,V.isl (a2.Dims.map enc),V.isl (a2.Maps.map enc)]∧e.at 8=v8∧e.at 11=z11∧e.at 30=z10):=by
 rw[ql];refine qq hF _ rfl (fun n s e h=> s.length=s0.length∧(∃K,Deep.rep h v8 s K)∧e.length=63∧e.at 3=V.iptr [V.isl (a0.Down.map enc),V.isl (a0.Up.map enc),V.isl (a0.Back.map enc)]∧e.at 4=V.iptr [V.int .i64 a1.Prime,V.isl (a1.Dims.map enc),V.isl (a1.Maps.map enc)]∧e.at 5=V.iptr [V.int .i64 a2.Prime,V.isl (a2.Dims.map enc),V.isl (a2.Maps.map enc)]∧e.at 8=v8∧e.at 11=z11∧e.at 30=z10∧e.at 37=v8∧e.at 38=V.int .i64 (s0.length:Int)∧e.at 39=V.int .i64 n) ⟨rfl,⟨K0,hr⟩,hl,h3,h4,h5,h8,h11,h30,h37,h38,h39⟩ ?_ ?_
 ·clear hr hl h3 h4 h5 h8 h11 h30 h37 h38 h39
  rintro n s e ⟨E,c⟩ ⟨hsl,⟨K,r1⟩,h_1⟩ hlt hw o ho;unfold F193_3_B at ho;obtain⟨l,gl,ho⟩:=bS ho;obtain⟨la,lb⟩:=qm gl;have lc:=qM gl;obtain⟨l',gl',ho⟩:=bS ho;obtain⟨s',gs,ho⟩:=bS ho;have es:=jI gs;cases ho;obtain⟨key,uid,vs,x1,K1,K2,hx,q1,q2,q3,q4,q5,q6,q7,q8⟩:=swap193 r1 lb;simp only at q1;have oc:=qz q2;have hln:=rep_len q4;simp only[simprocAttr,R0,b193_3,h_1,eq_true hlt,hw,hx,la,eq_true lc,q1,oc,hln];refine W.mono (l193_4 a0 a1 a2 gl' (Z:=fun k=> k=key∨K2 k) (v8:=v8) (z10:=z10) (z11:=z11) (z37:=v8) (z38:=V.int .i64 (s0.length:Int)) (z39:=V.int .i64 n) q4 (fun k q z=> z.elim (fun z=>(q5 k q).2 z) (fun z=>(q5 k q).1 z)) (fun k z=> Deep.bd r1 ((q7 k).2 (z.elim (fun z=> .inl z) fun z=> .inr (.inr z)))) ?_ ?_ ?_ ?_ ?_ ?_ ?_ ?_ ?_ ?_ ?_ ?_ ?_ ?_ ?_) ?_
  rotate_right
  ·rintro _ e ⟨E2,c2⟩ ⟨rfl,⟨K1',p1,p2⟩,p3,p4,h_2⟩
   simp only at p3 p4;simp only[simprocAttr,R0,h_2,hw];have hvx:vs.set n.toNat x1=vs:=jC q2;have rr:=q8 ⟨E2,c2⟩ x1 l' K1' p1 (by rw[hvx]; exact(p3 key (.inl rfl)).trans q1) (fun k z=> p3 k (.inr z)) (fun k q=>⟨fun z=> p2 k q (.inr z),fun z=> p2 k q (.inl z)⟩);rw[←es,hx]at rr;refine ai rfl ⟨by rw[es,yB]; exact hsl,⟨_,rr⟩,?_⟩;simp only[simprocAttr,R0,h_2];simp only[hx]
  all_goals simp only[simprocAttr,R0,h_1]
  all_goals simp only[hx]
 ·clear hr hl h3 h4 h5 h8 h11 h30 h37 h38 h39
  rintro n s e ⟨E,c⟩ ⟨hsl,r1,h_1⟩ hge t1 ho;unfold F193_3_D at ho;cases ho;simp only[simprocAttr,R0,b193_3,h_1,eq_false hge];intro ht; subst ht;exact r1
theorem s193(a0:qj)(a1 a2:qh){r:T2 Int Bool}(hF:F193 a0 a1 a2=some r):ans A 193 [(eK a0),(eC a1),(eC a2)]=some (EncR.enc r):=by
 refine qp (f:=p193) rfl rfl rfl fun e hl he=>?_;have h0_0:e.at 0=(eK a0):=he 0 _ rfl;have h1_0:e.at 1=(eC a1):=he 1 _ rfl;have h2_0:e.at 2=(eC a2):=he 2 _ rfl;have hl_0:e.length=63:=hl;clear he hl;show W A b193 e ⟨[],0⟩ _;unfold F193 at hF;obtain⟨s0,g0,hF⟩:=bS hF;obtain⟨t,gt,hF⟩:=bS hF;simp only[simprocAttr, -Int.reduceNatCast',R0,b193, *];refine W.mono (Q:=fun x e h=> x= .normal∧∃v,∃K:Ks,Deep.rep h v s0 K∧e.length=63∧e.at 3=V.iptr [V.isl (a0.Down.map enc),V.isl (a0.Up.map enc),V.isl (a0.Back.map enc)]∧e.at 4=V.iptr [V.int .i64 a1.Prime,V.isl (a1.Dims.map enc),V.isl (a1.Maps.map enc)]∧e.at 5=V.iptr [V.int .i64 a2.Prime,V.isl (a2.Dims.map enc),V.isl (a2.Maps.map enc)]∧e.at 8=v) ?_ ?_
 ·show W A (.block 0 (.loop true b193_1)) _ _ _
  rw[ql];refine qq g0 _ rfl (fun i s e h=>∃v,∃K:Ks,Deep.rep h v s K∧e.length=63∧e.at 3=V.iptr [V.isl (a0.Down.map enc),V.isl (a0.Up.map enc),V.isl (a0.Back.map enc)]∧e.at 4=V.iptr [V.int .i64 a1.Prime,V.isl (a1.Dims.map enc),V.isl (a1.Maps.map enc)]∧e.at 5=V.iptr [V.int .i64 a2.Prime,V.isl (a2.Dims.map enc),V.isl (a2.Maps.map enc)]∧e.at 8=v∧e.at 18=V.isl (a1.Dims.map enc)∧e.at 19=V.int .i64 (a1.Dims.length:Int)∧e.at 20=V.int .i64 i) ?_ ?_ ?_
  ·refine⟨V.sl 3 3 0 0 1,fun k=> k=3∨False,rep_at (α:=List (List Int)) (l:=[]) (K:=fun _=> False) (h:=⟨[(0,none),(0,none),(0,none),(3,some [])],4⟩) rfl (fun _ x=> x) (fun x=> x),?_⟩
   simp only[simprocAttr, -Int.reduceNatCast',R0, *]
  ·clear hl_0 h0_0 h1_0 h2_0
   rintro i s e ⟨E,c⟩ ⟨v,K,g1,hl_1,h3_1,h4_1,h5_1,h8_1,h18_1,h19_1,h20_1⟩ hlt hw s' ho;unfold F193_1_B at ho;obtain⟨d,gd,ho⟩:=bS ho;obtain⟨da,db⟩:=qm gd;obtain⟨u,gu,ho⟩:=bS ho;have wu:tans A 124 [1,1] [V.int .i64 d]=some (V.isl (u.map enc)):=x124 d gu;obtain⟨l14,gl14,ho⟩:=bS ho;have hE:=wB ho; subst hE;obtain⟨vu,⟨E1,c1⟩,Ku,t1,t2,t3,t4,t5⟩:=thawD (α:=List (List Int)) (by decide) u ⟨E,c⟩;simp only at t3 t4 t5;have t1':thaw 16 [1,1] (V.isl (u.map enc)) ⟨E,c⟩=some (vu,⟨E1,c1⟩):=t1;obtain⟨u1,u2⟩:=rep_one t2;have pre:∀ (y:Nat×Option (List V)) k,k < E1.length→(E1++[y])[k]? =E1[k]?:=fun y k q=> List.getElem?_append_left q;have g1':Deep.rep ⟨E1,c1⟩ v s K:=Deep.frame g1 fun k q=> t5 k (Deep.bd g1 q);obtain⟨v',E',c',K',p1,p2,p3,p4,p5⟩:=zn (E:=E1++[(c1,some [vu])]) (c:=c1+1) (Deep.frame g1' fun k q=> pre _ k (Deep.bd g1' q)) (Deep.frame t2 fun k q=> pre _ k (Deep.bd t2 q)) (fun k q z=> by have a:=Deep.bd g1 q; have b:=(t3 k z).1; simp only at a; omega) gl14;simp only[simprocAttr, -Int.reduceNatCast',R0,b193_1,da,db,qK,t1',u1,u2,qy,p1, *];refine ai rfl ⟨v',K',p2,?_⟩;simp only[simprocAttr, -Int.reduceNatCast',R0, *]
  ·clear hl_0 h0_0 h1_0 h2_0
   rintro i s e ⟨E,c⟩ ⟨v,K,g1,hl_1,h3_1,h4_1,h5_1,h8_1,h18_1,h19_1,h20_1⟩ hge t1 ho;unfold F193_1_D at ho;have hE:=wB ho; subst hE;simp only[simprocAttr, -Int.reduceNatCast',R0,b193_1, *];intro ht; subst ht;exact⟨v,K,g1,rfl⟩
 clear hl_0 h0_0 h1_0 h2_0;rintro _ e ⟨E,c⟩ ⟨rfl,v8,K0,g1,hl_0,h3_0,h4_0,h5_0,h8_0⟩;simp only[simprocAttr, -Int.reduceNatCast',R0, *];refine W.mono (Q:=fun x e h=> match t with| .inl _=> x= .normal∧e.length=63| .inr r=> x= .ret∧Fin p193 (EncR.enc r) .ret e h) ?_ ?_
 ·show W A (.block 2 (.loop true b193_2)) _ _ _
  rw[ql];refine qq gt _ rfl (fun k s e h=>∃K:Ks,Deep.rep h v8 s K∧e.length=63∧e.at 3=V.iptr [V.isl (a0.Down.map enc),V.isl (a0.Up.map enc),V.isl (a0.Back.map enc)]∧e.at 4=V.iptr [V.int .i64 a1.Prime,V.isl (a1.Dims.map enc),V.isl (a1.Maps.map enc)]∧e.at 5=V.iptr [V.int .i64 a2.Prime,V.isl (a2.Dims.map enc),V.isl (a2.Maps.map enc)]∧e.at 8=v8∧e.at 30=V.int .i64 k) ?_ ?_ ?_
  ·refine⟨K0,g1,?_⟩
   simp only[simprocAttr, -Int.reduceNatCast',R0, *]
  ·clear hl_0 h3_0 h4_0 h5_0 h8_0
   rintro k s e ⟨E,c⟩ ⟨K,g2,hl_1,h3_1,h4_1,h5_1,h8_1,h30_1⟩ hlt hw o ho;unfold F193_2_B at ho;obtain⟨b,gb,ho⟩:=bS ho;have zf:frz ⟨E,c⟩ 16 v8=some (V.isl (s.map enc)):=Deep.fz g2 9;have wb:ans A 208 [V.isl (s.map enc),V.fn 209 [] []]=some (V.bool b):=s208 s (fun l=> F209 l)
    (Clo1.of (by intro h f; simp only[RZ,mapO]) (by intro h f; simp only[RZ,mapO]) (by intro f; simp only[RZ,RB]) (by intro f; simp only[RZ,RB]) (fun x _ hr=> s209 x hr)) gb
   by_cases cb:b=true
   ·subst cb
    rw[if_pos rfl]at ho;obtain⟨s1,gs1,ho⟩:=bS ho;have hE:=wB ho; subst hE;have hln:=rep_len g2;simp only[simprocAttr, -Int.reduceNatCast',R0,b193_2,zf,hln, *];refine W.mono (l193_3 a0 a1 a2 gs1 (z10:=V.int .i64 k) (z11:=V.int .i64 k) g2 ?_ ?_ ?_ ?_ ?_ ?_ ?_ ?_ ?_ ?_) ?_
    rotate_right
    ·rintro _ e ⟨E2,c2⟩ ⟨rfl,⟨K',g3⟩,hl_2,h3_2,h4_2,h5_2,h8_2,h11_2,h30_2⟩
     simp only[simprocAttr, -Int.reduceNatCast',R0, *];refine ai rfl ⟨K',g3,?_⟩;simp only[simprocAttr, -Int.reduceNatCast',R0, *]
    all_goals simp only[simprocAttr, -Int.reduceNatCast',R0, *]
   ·have cb':b=false:=by simpa using cb
    subst cb';rw[if_neg wE]at ho;have hE:=wB ho; subst hE;simp only[simprocAttr, -Int.reduceNatCast',R0,b193_2,zf, *];intro ht; subst ht;simp only[simprocAttr, -Int.reduceNatCast',RR,RB];exact qc (by simp only[simprocAttr, -Int.reduceNatCast',R0,qd,p193,Rs.ev, *])
  ·clear hl_0 h3_0 h4_0 h5_0 h8_0
   rintro k s e ⟨E,c⟩ ⟨K,g2,hl_1,h3_1,h4_1,h5_1,h8_1,h30_1⟩ hge t1 ho;unfold F193_2_D at ho;have hE:=wB ho; subst hE;simp only[simprocAttr, -Int.reduceNatCast',R0,b193_2, *];intro ht; subst ht;simp only[simprocAttr, -Int.reduceNatCast',R0, *]
 clear hl_0 h3_0 h4_0 h5_0 h8_0;rintro x e h hq;cases t with
 |inl _=>
  obtain⟨rfl,hl_0⟩:=hq;have hE:=wB hF; subst hE;simp only[simprocAttr, -Int.reduceNatCast',R0, *];exact qc (by simp only[simprocAttr, -Int.reduceNatCast',R0,qd,p193,Rs.ev, *])
 |inr r2=>
  obtain⟨rfl,hq⟩:=hq;have hE:=wB hF; subst hE;simp only[simprocAttr, -Int.reduceNatCast',RR,RB];exact hq
def F172(a0:qh)(a1:qj)(a2:List (List (List Int))):Option (T3 Int qh Int):=
 (F49 a0 a2).bind fun x1=>
 if x1=0 then
  (F192 a1 a0).bind fun x4=>
  if x4=true then
   (F50 a0 a2).bind fun x6=>
   (F42 x6).bind fun x8=>
   if x8=true then
    (F193 a1 a0 ⟨a0.Prime,a0.Dims,a2⟩).bind fun x10=>
    if x10.b=true then
     some ⟨x10.a,⟨a0.Prime,a0.Dims,a2⟩,0⟩
    else
     some ⟨0,⟨0,[],[]⟩,5⟩
   else
    some ⟨0,⟨0,[],[]⟩,5⟩
  else
   some ⟨0,⟨0,[],[]⟩,2⟩
 else
  some ⟨0,⟨0,[],[]⟩,x1⟩
theorem s172(a0:qh)(a1:qj)(a2:List (List (List Int))){r:T3 Int qh Int}(hF:F172 a0 a1 a2=some r):ans A 172 [(eC a0),(eK a1),V.isl (a2.map enc)]=some (EncR.enc r):=by
 refine qp (f:=p172) rfl rfl rfl fun e hl he=>?_;have h0_0:e.at 0=(eC a0):=he 0 _ rfl;have h1_0:e.at 1=(eK a1):=he 1 _ rfl;have h2_0:e.at 2=V.isl (a2.map enc):=he 2 _ rfl;have hl_0:e.length=52:=hl;clear he hl;have h_0:=ai hl_0 (ai h0_0 (ai h1_0 h2_0));show W A b172 e ⟨[],0⟩ _;unfold F172 at hF;obtain⟨x1,gx1,hF⟩:=bS hF;have w2:=s49 a0 a2 gx1;by_cases c3:x1=0
 ·rw[if_pos c3]at hF
  obtain⟨x4,gx4,hF⟩:=bS hF;have w5:=s192 a1 a0 gx4;cases x4 with
  |true=>
   rw[if_pos rfl]at hF;obtain⟨x6,gx6,hF⟩:=bS hF;have w7:=s50 a0 a2 gx6;obtain⟨x8,gx8,hF⟩:=bS hF;have w9:=s42 x6 gx8;cases x8 with
   |true=>
    rw[if_pos rfl]at hF;obtain⟨x10,gx10,hF⟩:=bS hF;have w11:ans A 193 [(eK a1),(eC a0),V.agg [V.int .i64 a0.Prime,V.isl (a0.Dims.map enc),V.isl (a2.map enc)]]=some (V.tup [V.int .i64 x10.a,V.bool x10.b]):=s193 a1 a0 ⟨a0.Prime,a0.Dims,a2⟩ gx10;by_cases c12:x10.b=true
    ·rw[if_pos c12]at hF
     cases hF;simp only[simprocAttr,R0,b172, *];exact qc (by simp only[simprocAttr,R0,qd,p172,Rs.ev,qa, *])
    ·rw[if_neg c12]at hF
     cases hF;simp only[simprocAttr,R0,b172,Bool.eq_false_iff.2 c12, *];exact qc (by simp only[simprocAttr,R0,qd,p172,Rs.ev,qa,Bool.eq_false_iff.2 c12, *])
   |false=>
    rw[if_neg wE]at hF;cases hF;simp only[simprocAttr,R0,b172, *];exact qc (by simp only[simprocAttr,R0,qd,p172,Rs.ev,qa, *])
  |false=>
   rw[if_neg wE]at hF;cases hF;simp only[simprocAttr,R0,b172, *];exact qc (by simp only[simprocAttr,R0,qd,p172,Rs.ev,qa, *])
 ·rw[if_neg c3]at hF
  cases hF;simp only[simprocAttr,R0,b172, *];exact qc (by simp only[simprocAttr,R0,qd,p172,Rs.ev,qa, *])
end
end Rv
