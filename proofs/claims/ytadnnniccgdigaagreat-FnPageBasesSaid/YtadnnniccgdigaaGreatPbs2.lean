/- What the abstract code answers: typed functions, part 3. -/
import Derived.Test.YtadnnniccgdigaaGreatPbs1
namespace Rv
open Enc (enc)
set_option linter.unusedVariables false
set_option linter.unusedSimpArgs false
set_option maxRecDepth 100000
noncomputable section
def F454_3_B(z3_0:Int)(z3_1:List Int)(z3_2:List (List (List Int)))(z3_3:List (List Int))(y7:List (List Int))(x68:T2 (List (List Int)) Int)(v38_1:Int)(v39_2:Int)(v41_3:Int)(v40_3:Int):Option ((Int)⊕(Int)):=
 (getI y7 v38_1).bind fun x84=>
(getI x84 v41_3).bind fun x86=>
(getI x68.a v41_3).bind fun x88=>
(getI x88 v39_2).bind fun x90=>
(chk (x86*x90)).bind fun x92=>
(chk (v40_3+x92)).bind fun x93=>
some (.inl x93)
def F454_3_D(z3_0:Int)(z3_1:List Int)(z3_2:List (List (List Int)))(z3_3:List (List Int))(y7:List (List Int))(x68:T2 (List (List Int)) Int)(v38_1:Int)(v39_2:Int)(v41_3:Int)(v40_3:Int):Option (Int):=
 some v40_3
def jF(z3_0:Int)(z3_1:List Int)(z3_2:List (List (List Int)))(z3_3:List (List Int))(y7:List (List Int))(x68:T2 (List (List Int)) Int)(v38_1:Int)(v39_2:Int):Option ((Int)⊕((Unit)⊕Bool)):=
 if 0 < (x68.a.length:Int)then
 (getI x68.a 0).bind fun x78=>
 if v39_2 < (x78.length:Int)then
  (forR 0 (x68.a.length:Int) (F454_3_B z3_0 z3_1 z3_2 z3_3 y7 x68 v38_1 v39_2) (F454_3_D z3_0 z3_1 z3_2 z3_3 y7 x68 v38_1 v39_2) 0).bind fun zv40_3=>
  (remI zv40_3 z3_0).bind fun x95=>
  if x95=0 then
   (chk (v39_2+1)).bind fun x98=>
   some (.inl x98)
  else
   some (.inr (.inr false))
 else
  some (.inr (.inl ()))
else
 some (.inr (.inl ()))
def F454_1_B(z3_0:Int)(z3_1:List Int)(z3_2:List (List (List Int)))(z3_3:List (List Int))(y7:List (List Int))(x68:T2 (List (List Int)) Int)(v38_1:Int)(s:Unit):Option ((Unit)⊕((Unit)⊕Bool)):=
 (qV (jF z3_0 z3_1 z3_2 z3_3 y7 x68 v38_1) 0).bind fun t99=> match t99 with
 | .inl _=>
  some (.inl ())
 | .inr r100=> some (.inr (.inr r100))
def F454_1_D(z3_0:Int)(z3_1:List Int)(z3_2:List (List (List Int)))(z3_3:List (List Int))(y7:List (List Int))(x68:T2 (List (List Int)) Int)(v38_1:Int)(s:Unit):Option ((Unit)⊕Bool):=
 some (.inl ())
def F454_93(z3_0:Int)(z3_1:List Int)(z3_2:List (List (List Int)))(z3_3:List (List Int))(y4:Int)(y5:Int)(y6:Int)(y7:List (List Int)):Option Bool:=
 (chk (y5 - 1)).bind fun x66=>
 (chk (y6 - y4)).bind fun x67=>
 (F324 ⟨⟨z3_0,z3_1,z3_2⟩,z3_3⟩ y4 x66 x67).bind fun x68=>
 if x68.b=0 then
  (forR 0 (y7.length:Int) (F454_1_B z3_0 z3_1 z3_2 z3_3 y7 x68) (F454_1_D z3_0 z3_1 z3_2 z3_3 y7 x68) ()).bind fun t101=> match t101 with
   | .inl _=>
    some true
   | .inr r102=> some r102
 else
  some false
def F454_92(z3_0:Int)(z3_1:List Int)(z3_2:List (List (List Int)))(z3_3:List (List Int))(y4:Int)(y5:Int)(y6:Int)(y7:List (List Int))(y8:Int):Option Bool:=
 if y8=0 then
  if y5 < 1 then
   some true
  else
   if y6 < y4 then
    some true
   else
    (F152 ⟨⟨z3_0,z3_1,z3_2⟩,z3_3⟩ y4 y5 y6).bind fun x54=>
    if x54.b=0 then
     if 0 < (y7.length:Int)then
      (getI y7 0).bind fun x58=>
      if 0 < (x58.length:Int)then
       (F433 z3_0 (x58.length:Int) y7).bind fun x61=>
       if x61.b=0 then
        if(x61.a.length:Int)=x54.a then
         F454_93 z3_0 z3_1 z3_2 z3_3 y4 y5 y6 y7
        else
         some false
       else
        some false
      else
       F454_93 z3_0 z3_1 z3_2 z3_3 y4 y5 y6 y7
     else
      F454_93 z3_0 z3_1 z3_2 z3_3 y4 y5 y6 y7
    else
     some false
 else
  some (decide ((y7.length:Int)=0))
def F454_91(z3_0:Int)(z3_1:List Int)(z3_2:List (List (List Int)))(z3_3:List (List Int))(y4:Int)(y5:Int)(y6:Int)(y7:List (List Int))(y8:Int)(z11_0:Int)(z11_1:List Int)(z11_2:List (List (List Int)))(z11_3:List (List Int))(y12:Int)(y13:Int)(y14:Int)(y15:List (List Int))(y16:Int):Option Bool:=
 (F428 ⟨⟨z11_0,z11_1,z11_2⟩,z11_3⟩ y12 y13 y14).bind fun x22=>
 (F429 ⟨⟨z11_0,z11_1,z11_2⟩,z11_3⟩ y12 y13 y14).bind fun x24=>
 if x22.b=x24.b then
  (F160 x22.a x24.a).bind fun x27=>
  if x27=true then
   (F430 ⟨⟨z11_0,z11_1,z11_2⟩,z11_3⟩ y12 y13 y14).bind fun x29=>
   (F431 ⟨⟨z11_0,z11_1,z11_2⟩,z11_3⟩ y12 y13 y14).bind fun x31=>
   if x29.b=x31.b then
    (F160 x29.a x31.a).bind fun x34=>
    if x34=true then
     if y16=0 then
      (F151 ⟨⟨z11_0,z11_1,z11_2⟩,z11_3⟩ y12 y13 y14).bind fun x37=>
      if x37.b=0 then
       if(y15.length:Int)=x37.a then
        (chk ((y15.length:Int)+(x29.a.length:Int))).bind fun x41=>
        if x41=(x22.a.length:Int)then
         (getI z11_1 y13).bind fun x43=>
         (F432 z11_0 x43 y15 x29.a).bind fun x45=>
         if x45.b=0 then
          (F160 x45.a x22.a).bind fun x48=>
          if x48=true then
           F454_92 z3_0 z3_1 z3_2 z3_3 y4 y5 y6 y7 y8
          else
           some false
         else
          F454_92 z3_0 z3_1 z3_2 z3_3 y4 y5 y6 y7 y8
        else
         some false
       else
        some false
      else
       some false
     else
      F454_92 z3_0 z3_1 z3_2 z3_3 y4 y5 y6 y7 y8
    else
     some false
   else
    some false
  else
   some false
 else
  some false
def F454(a0:List U8):Option Bool:=
 (F140 a0).bind fun x1=>
 if x1=true then
  some true
 else
  (F426 a0).bind fun x3=>
  (F324 x3.a x3.b x3.c x3.d).bind fun x5=>
  (F323 x3.a x3.b x3.c x3.d).bind fun x7=>
  if x5.b=x7.b then
   (F160 x5.a x7.a).bind fun x10=>
   if x10=true then
    (F427 a0).bind fun x12=>
    (F322 x12.a x12.b x12.c x12.d).bind fun x14=>
    (F321 x12.a x12.b x12.c x12.d).bind fun x16=>
    if x14.b=x16.b then
     (F160 x14.a x16.a).bind fun x19=>
     if x19=true then
      F454_91 x3.a.Complex.Prime x3.a.Complex.Dims x3.a.Complex.Maps x3.a.Levels x3.b x3.c x3.d x5.a x5.b x12.a.Complex.Prime x12.a.Complex.Dims x12.a.Complex.Maps x12.a.Levels x12.b x12.c x12.d x14.a x14.b
     else
      some false
    else
     some false
   else
    some false
  else
   some false
def I454_3(z3_0:Int)(z3_1:List Int)(z3_2:List (List (List Int)))(z3_3:List (List Int))(y7:List (List Int))(x68:T2 (List (List Int)) Int)(v38_1:Int)(v39_2:Int)(r1:Nat×Option (List V))(v41_3:Int)(v40_3:Int)(e:Env)(h:Heap):Prop:=
 ∃k82:Nat,h=⟨[(0,some [V.int .i64 z3_0,V.isl (z3_1.map enc),V.isl (z3_2.map enc),V.isl (z3_3.map enc)]),r1],k82⟩∧e.length=329∧e.at 3=V.ptr 0 0 0∧e.at 7=V.isl (y7.map enc)∧e.at 36=V.isl (x68.a.map enc)∧e.at 38=V.int .i64 v38_1∧e.at 39=V.int .i64 v39_2∧e.at 40=V.int .i64 v40_3∧e.at 41=V.int .i64 v41_3
def P454_3(z3_0:Int)(z3_1:List Int)(z3_2:List (List (List Int)))(z3_3:List (List Int))(y7:List (List Int))(x68:T2 (List (List Int)) Int)(v38_1:Int)(v39_2:Int)(r1:Nat×Option (List V))(zv40_3:Int)(x:Ex)(e:Env)(h:Heap):Prop:=
 x= .normal∧∃k82:Nat,h=⟨[(0,some [V.int .i64 z3_0,V.isl (z3_1.map enc),V.isl (z3_2.map enc),V.isl (z3_3.map enc)]),r1],k82⟩∧e.length=329∧e.at 3=V.ptr 0 0 0∧e.at 7=V.isl (y7.map enc)∧e.at 36=V.isl (x68.a.map enc)∧e.at 38=V.int .i64 v38_1∧e.at 39=V.int .i64 v39_2∧e.at 40=V.int .i64 zv40_3
theorem l454_3(z3_0:Int)(z3_1:List Int)(z3_2:List (List (List Int)))(z3_3:List (List Int))(y7:List (List Int))(x68:T2 (List (List Int)) Int)(v38_1:Int)(v39_2:Int)(r1:Nat×Option (List V)){lo:Int}{s:Int}{t:Int}(hF:forR lo (x68.a.length:Int) (F454_3_B z3_0 z3_1 z3_2 z3_3 y7 x68 v38_1 v39_2) (F454_3_D z3_0 z3_1 z3_2 z3_3 y7 x68 v38_1 v39_2) s=some t){e:Env}{h:Heap}(hI:I454_3 z3_0 z3_1 z3_2 z3_3 y7 x68 v38_1 v39_2 r1 lo s e h):W A c454_3 e h (P454_3 z3_0 z3_1 z3_2 z3_3 y7 x68 v38_1 v39_2 r1 t):=by
 show W A (.block 4 (.loop false b454_3)) e h _;rw[qr];refine qD hF 2 (by obtain⟨_,rfl,_⟩:=hI; rfl) (I454_3 z3_0 z3_1 z3_2 z3_3 y7 x68 v38_1 v39_2 r1) hI ?_ ?_
 ·rintro v41_3 v40_3 e h ⟨k82,rfl,h_81⟩ hlt hw o ho
  unfold F454_3_B at ho;obtain⟨x84,gx84,ho⟩:=bS ho;obtain⟨w85a,w85b⟩:=qk gx84;obtain⟨x86,gx86,ho⟩:=bS ho;obtain⟨w87a,w87b⟩:=qk gx86;obtain⟨x88,gx88,ho⟩:=bS ho;obtain⟨w89a,w89b⟩:=qk gx88;obtain⟨x90,gx90,ho⟩:=bS ho;obtain⟨w91a,w91b⟩:=qk gx90;obtain⟨x92,gx92,ho⟩:=bS ho;have wx92:=qz gx92;obtain⟨x93,gx93,ho⟩:=bS ho;have wx93:=qz gx93;cases ho;simp only[simprocAttr,R0,b454_3, *];refine ai rfl (ei _ (ai rfl ?_));simp only[simprocAttr,R0, *]
 ·rintro v41_3 v40_3 e h ⟨k82,rfl,h_81⟩ hge t1 ho
  unfold F454_3_D at ho;cases ho;simp only[simprocAttr,R0,b454_3, *];intro ht; subst ht;refine ai rfl (ei _ (ai rfl ?_));simp only[simprocAttr,R0, *]
def I454_2(z3_0:Int)(z3_1:List Int)(z3_2:List (List (List Int)))(z3_3:List (List Int))(y7:List (List Int))(x68:T2 (List (List Int)) Int)(v38_1:Int)(r1:Nat×Option (List V))(v39_2:Int)(e:Env)(h:Heap):Prop:=
 ∃k75:Nat,h=⟨[(0,some [V.int .i64 z3_0,V.isl (z3_1.map enc),V.isl (z3_2.map enc),V.isl (z3_3.map enc)]),r1],k75⟩∧e.length=329∧e.at 3=V.ptr 0 0 0∧e.at 7=V.isl (y7.map enc)∧e.at 36=V.isl (x68.a.map enc)∧e.at 38=V.int .i64 v38_1∧e.at 39=V.int .i64 v39_2
def P454_2(z3_0:Int)(z3_1:List Int)(z3_2:List (List (List Int)))(z3_3:List (List Int))(y7:List (List Int))(x68:T2 (List (List Int)) Int)(v38_1:Int)(r1:Nat×Option (List V))(t:(Unit)⊕Bool)(x:Ex)(e:Env)(h:Heap):Prop:=
 match t with
 | .inl _=> x= .normal∧∃k75:Nat,h=⟨[(0,some [V.int .i64 z3_0,V.isl (z3_1.map enc),V.isl (z3_2.map enc),V.isl (z3_3.map enc)]),r1],k75⟩∧e.length=329∧e.at 3=V.ptr 0 0 0∧e.at 7=V.isl (y7.map enc)∧e.at 36=V.isl (x68.a.map enc)∧e.at 38=V.int .i64 v38_1
 | .inr r=> x= .ret∧Fin p454 (enc r) .ret e h
theorem l454_2(z3_0:Int)(z3_1:List Int)(z3_2:List (List (List Int)))(z3_3:List (List Int))(y7:List (List Int))(x68:T2 (List (List Int)) Int)(v38_1:Int)(r1:Nat×Option (List V)){s:Int}{t:(Unit)⊕Bool}(hF:qV (jF z3_0 z3_1 z3_2 z3_3 y7 x68 v38_1) s=some t){e:Env}{h:Heap}(hI:I454_2 z3_0 z3_1 z3_2 z3_3 y7 x68 v38_1 r1 s e h):W A c454_2 e h (P454_2 z3_0 z3_1 z3_2 z3_3 y7 x68 v38_1 r1 t):=by
 show W A (.block 2 (.loop false b454_2)) e h _;rw[qr];refine jh hF 2 (by obtain⟨_,rfl,_⟩:=hI; rfl) (I454_2 z3_0 z3_1 z3_2 z3_3 y7 x68 v38_1 r1) hI ?_
 ·rintro v39_2 e h ⟨k75,rfl,h_74⟩ o ho
  unfold jF at ho;by_cases c77:0 < (x68.a.length:Int)
  ·rw[if_pos c77]at ho
   obtain⟨x78,gx78,ho⟩:=bS ho;obtain⟨w79a,w79b⟩:=qk gx78;replace w79b:x68.a[0]? =some x78:=w79b;by_cases c80:v39_2 < (x78.length:Int)
   ·rw[if_pos c80]at ho
    obtain⟨zv40_3,gt94,ho⟩:=bS ho;simp only[simprocAttr,R0,b454_2, *];refine W.mono (l454_3 z3_0 z3_1 z3_2 z3_3 y7 x68 v38_1 v39_2 r1 gt94 (ei _ (ai rfl ?_))) ?_
    ·simp only[simprocAttr,R0, *]
    rintro _ e _ ⟨rfl,k82,rfl,h_83⟩;obtain⟨x95,gx95,ho⟩:=bS ho;obtain⟨w96a,w96b⟩:=rem_w gx95;by_cases c97:x95=0
    ·rw[if_pos c97]at ho
     obtain⟨x98,gx98,ho⟩:=bS ho;have wx98:=qz gx98;cases ho;simp only[simprocAttr,R0, *];refine ai rfl (ei _ (ai rfl ?_));simp only[simprocAttr,R0, *]
    ·rw[if_neg c97]at ho
     cases ho;simp only[simprocAttr,R0, *];intro ht; subst ht;simp only[simprocAttr,RR,RB];exact ai rfl (qf (by simp only[simprocAttr,R0,qg,p454,Rs.ev,qc, *]))
   ·rw[if_neg c80]at ho
    cases ho;simp only[simprocAttr,R0,b454_2, *];intro ht; subst ht;simp only[simprocAttr,RR,RB];refine ai rfl (ei _ (ai rfl ?_));simp only[simprocAttr,R0, *]
  ·rw[if_neg c77]at ho
   cases ho;simp only[simprocAttr,R0,b454_2, *];intro ht; subst ht;simp only[simprocAttr,RR,RB];refine ai rfl (ei _ (ai rfl ?_));simp only[simprocAttr,R0, *]
def I454_1(z3_0:Int)(z3_1:List Int)(z3_2:List (List (List Int)))(z3_3:List (List Int))(y7:List (List Int))(x68:T2 (List (List Int)) Int)(r1:Nat×Option (List V))(v38_1:Int)(s:Unit)(e:Env)(h:Heap):Prop:=
 ∃k72:Nat,h=⟨[(0,some [V.int .i64 z3_0,V.isl (z3_1.map enc),V.isl (z3_2.map enc),V.isl (z3_3.map enc)]),r1],k72⟩∧e.length=329∧e.at 3=V.ptr 0 0 0∧e.at 7=V.isl (y7.map enc)∧e.at 36=V.isl (x68.a.map enc)∧e.at 38=V.int .i64 v38_1
def P454_1(z3_0:Int)(z3_1:List Int)(z3_2:List (List (List Int)))(z3_3:List (List Int))(y7:List (List Int))(x68:T2 (List (List Int)) Int)(r1:Nat×Option (List V))(t:(Unit)⊕Bool)(x:Ex)(e:Env)(h:Heap):Prop:=
 match t with
 | .inl _=> x= .normal∧∃k72:Nat,h=⟨[(0,some [V.int .i64 z3_0,V.isl (z3_1.map enc),V.isl (z3_2.map enc),V.isl (z3_3.map enc)]),r1],k72⟩∧e.length=329
 | .inr r=> x= .ret∧Fin p454 (enc r) .ret e h
theorem l454_1(z3_0:Int)(z3_1:List Int)(z3_2:List (List (List Int)))(z3_3:List (List Int))(y7:List (List Int))(x68:T2 (List (List Int)) Int)(r1:Nat×Option (List V)){lo:Int}{s:Unit}{t:(Unit)⊕Bool}(hF:forR lo (y7.length:Int) (F454_1_B z3_0 z3_1 z3_2 z3_3 y7 x68) (F454_1_D z3_0 z3_1 z3_2 z3_3 y7 x68) s=some t){e:Env}{h:Heap}(hI:I454_1 z3_0 z3_1 z3_2 z3_3 y7 x68 r1 lo s e h):W A c454_1 e h (P454_1 z3_0 z3_1 z3_2 z3_3 y7 x68 r1 t):=by
 show W A (.block 0 (.loop false b454_1)) e h _;rw[qr];refine qD hF 2 (by obtain⟨_,rfl,_⟩:=hI; rfl) (I454_1 z3_0 z3_1 z3_2 z3_3 y7 x68 r1) hI ?_ ?_
 ·rintro v38_1 _ e h ⟨k72,rfl,h_71⟩ hlt hw o ho
  unfold F454_1_B at ho;obtain⟨t99,gt99,ho⟩:=bS ho;rcases t99 with _|r100
  ·dsimp only at ho
   simp only[simprocAttr,R0,b454_1, *];refine W.mono (l454_2 z3_0 z3_1 z3_2 z3_3 y7 x68 v38_1 r1 gt99 (ei _ (ai rfl ?_))) ?_
   ·simp only[simprocAttr,R0, *]
   rintro _ e _ ⟨rfl,k75,rfl,h_76⟩;cases ho;simp only[simprocAttr,R0, *];refine ai rfl (ei _ (ai rfl ?_));simp only[simprocAttr,R0, *]
  ·dsimp only at ho
   cases ho;simp only[simprocAttr,R0,b454_1, *];refine W.mono (l454_2 z3_0 z3_1 z3_2 z3_3 y7 x68 v38_1 r1 gt99 (ei _ (ai rfl ?_))) ?_
   ·simp only[simprocAttr,R0, *]
   rintro _ e h ⟨rfl,hq⟩;simp only[simprocAttr,RR,RB];intro ht; subst ht;simp only[simprocAttr,RR,RB];exact ai rfl hq
 ·rintro v38_1 _ e h ⟨k72,rfl,h_71⟩ hge t1 ho
  unfold F454_1_D at ho;cases ho;simp only[simprocAttr,R0,b454_1, *];intro ht; subst ht;refine ai rfl (ei _ (ai rfl ?_));simp only[simprocAttr,R0, *]
theorem k454_3_2(r1:Nat×Option (List V))(z3_0:Int)(z3_1:List Int)(z3_2:List (List (List Int)))(z3_3:List (List Int))(y4:Int)(y5:Int)(y6:Int)(y7:List (List Int)){r:Bool}(hF:F454_93 z3_0 z3_1 z3_2 z3_3 y4 y5 y6 y7=some r){ck:Nat}{e:Env}(hC:e.length=329∧e.at 3=V.ptr 0 0 0∧e.at 4=V.int .i64 y4∧e.at 5=V.int .i64 y5∧e.at 6=V.int .i64 y6∧e.at 7=V.isl (y7.map enc)):W A j454_3 e ⟨[(0,some [V.int .i64 z3_0,V.isl (z3_1.map enc),V.isl (z3_2.map enc),V.isl (z3_3.map enc)]),r1],ck⟩ (Fin p454 (enc r)):=by
 obtain⟨hl_65,h3_65,h4_65,h5_65,h6_65,h7_65⟩:=hC;unfold F454_93 at hF;obtain⟨x66,gx66,hF⟩:=bS hF;have wx66:=qz gx66;obtain⟨x67,gx67,hF⟩:=bS hF;have wx67:=qz gx67;obtain⟨x68,gx68,hF⟩:=bS hF;have w69:ans A 324 [V.agg [V.int .i64 z3_0,V.isl (z3_1.map enc),V.isl (z3_2.map enc),V.isl (z3_3.map enc)],V.int .i64 y4,V.int .i64 x66,V.int .i64 x67]=some (V.tup [V.isl (x68.a.map enc),V.int .i64 x68.b]):=s324 ⟨⟨z3_0,z3_1,z3_2⟩,z3_3⟩ y4 x66 x67 gx68;by_cases c70:x68.b=0
 ·rw[if_pos c70]at hF
  obtain⟨t101,gt101,hF⟩:=bS hF;rcases t101 with _|r102
  ·dsimp only at hF
   simp only[simprocAttr, -Int.reduceNatCast',R0,j454_3, *];refine W.mono (l454_1 z3_0 z3_1 z3_2 z3_3 y7 x68 r1 gt101 (ei _ (ai rfl ?_))) ?_
   ·simp only[simprocAttr, -Int.reduceNatCast',R0, *]
   rintro _ e _ ⟨rfl,k72,rfl,hl_73⟩;have hE:=wA hF; subst hE;simp only[simprocAttr, -Int.reduceNatCast',R0, *];exact qf (by simp only[simprocAttr, -Int.reduceNatCast',R0,qg,p454,Rs.ev,qc, *])
  ·dsimp only at hF
   have hE:=wA hF; subst hE;simp only[simprocAttr, -Int.reduceNatCast',R0,j454_3, *];refine W.mono (l454_1 z3_0 z3_1 z3_2 z3_3 y7 x68 r1 gt101 (ei _ (ai rfl ?_))) ?_
   ·simp only[simprocAttr, -Int.reduceNatCast',R0, *]
   rintro _ e h ⟨rfl,hq⟩;simp only[simprocAttr, -Int.reduceNatCast',RR,RB];exact hq
 ·rw[if_neg c70]at hF
  have hE:=wA hF; subst hE;simp only[simprocAttr, -Int.reduceNatCast',R0,j454_3, *];exact qf (by simp only[simprocAttr, -Int.reduceNatCast',R0,qg,p454,Rs.ev,qc, *])
theorem k454_2_2(r1:Nat×Option (List V))(z3_0:Int)(z3_1:List Int)(z3_2:List (List (List Int)))(z3_3:List (List Int))(y4:Int)(y5:Int)(y6:Int)(y7:List (List Int))(y8:Int){r:Bool}(hF:F454_92 z3_0 z3_1 z3_2 z3_3 y4 y5 y6 y7 y8=some r){ck:Nat}{e:Env}(hC:e.length=329∧e.at 3=V.ptr 0 0 0∧e.at 4=V.int .i64 y4∧e.at 5=V.int .i64 y5∧e.at 6=V.int .i64 y6∧e.at 7=V.isl (y7.map enc)∧e.at 8=V.int .i64 y8):W A j454_2 e ⟨[(0,some [V.int .i64 z3_0,V.isl (z3_1.map enc),V.isl (z3_2.map enc),V.isl (z3_3.map enc)]),r1],ck⟩ (Fin p454 (enc r)):=by
 obtain⟨hl_50,h3_50,h4_50,h5_50,h6_50,h7_50,h8_50⟩:=hC;unfold F454_92 at hF;by_cases c51:y8=0
 ·rw[if_pos c51]at hF
  by_cases c52:y5 < 1
  ·rw[if_pos c52]at hF
   have hE:=wA hF; subst hE;simp only[simprocAttr, -Int.reduceNatCast',R0,j454_2, *];exact qf (by simp only[simprocAttr, -Int.reduceNatCast',R0,qg,p454,Rs.ev,qc, *])
  ·rw[if_neg c52]at hF
   by_cases c53:y6 < y4
   ·rw[if_pos c53]at hF
    have hE:=wA hF; subst hE;simp only[simprocAttr, -Int.reduceNatCast',R0,j454_2, *];exact qf (by simp only[simprocAttr, -Int.reduceNatCast',R0,qg,p454,Rs.ev,qc, *])
   ·rw[if_neg c53]at hF
    obtain⟨x54,gx54,hF⟩:=bS hF;have w55:ans A 152 [V.agg [V.int .i64 z3_0,V.isl (z3_1.map enc),V.isl (z3_2.map enc),V.isl (z3_3.map enc)],V.int .i64 y4,V.int .i64 y5,V.int .i64 y6]=some (V.tup [V.int .i64 x54.a,V.int .i64 x54.b]):=s152 ⟨⟨z3_0,z3_1,z3_2⟩,z3_3⟩ y4 y5 y6 gx54;by_cases c56:x54.b=0
    ·rw[if_pos c56]at hF
     by_cases c57:0 < (y7.length:Int)
     ·rw[if_pos c57]at hF
      obtain⟨x58,gx58,hF⟩:=bS hF;obtain⟨w59a,w59b⟩:=qk gx58;replace w59b:y7[0]? =some x58:=w59b;by_cases c60:0 < (x58.length:Int)
      ·rw[if_pos c60]at hF
       obtain⟨x61,gx61,hF⟩:=bS hF;have w62:ans A 433 [V.int .i64 z3_0,V.int .i64 (x58.length:Int),V.isl (y7.map enc)]=some (V.tup [V.isl (x61.a.map enc),V.int .i64 x61.b]):=s433 z3_0 (x58.length:Int) y7 gx61;by_cases c63:x61.b=0
       ·rw[if_pos c63]at hF
        by_cases c64:(x61.a.length:Int)=x54.a
        ·rw[if_pos c64]at hF
         simp only[simprocAttr, -Int.reduceNatCast',R0,j454_2, *];refine k454_3_2 _ z3_0 z3_1 z3_2 z3_3 y4 y5 y6 y7 hF ?_;simp only[simprocAttr, -Int.reduceNatCast',R0, *]
        ·rw[if_neg c64]at hF
         have hE:=wA hF; subst hE;simp only[simprocAttr, -Int.reduceNatCast',R0,j454_2, *];exact qf (by simp only[simprocAttr, -Int.reduceNatCast',R0,qg,p454,Rs.ev,qc, *])
       ·rw[if_neg c63]at hF
        have hE:=wA hF; subst hE;simp only[simprocAttr, -Int.reduceNatCast',R0,j454_2, *];exact qf (by simp only[simprocAttr, -Int.reduceNatCast',R0,qg,p454,Rs.ev,qc, *])
      ·rw[if_neg c60]at hF
       simp only[simprocAttr, -Int.reduceNatCast',R0,j454_2, *];refine k454_3_2 _ z3_0 z3_1 z3_2 z3_3 y4 y5 y6 y7 hF ?_;simp only[simprocAttr, -Int.reduceNatCast',R0, *]
     ·rw[if_neg c57]at hF
      simp only[simprocAttr, -Int.reduceNatCast',R0,j454_2, *];refine k454_3_2 _ z3_0 z3_1 z3_2 z3_3 y4 y5 y6 y7 hF ?_;simp only[simprocAttr, -Int.reduceNatCast',R0, *]
    ·rw[if_neg c56]at hF
     have hE:=wA hF; subst hE;simp only[simprocAttr, -Int.reduceNatCast',R0,j454_2, *];exact qf (by simp only[simprocAttr, -Int.reduceNatCast',R0,qg,p454,Rs.ev,qc, *])
 ·rw[if_neg c51]at hF
  have hE:=wA hF; subst hE;simp only[simprocAttr, -Int.reduceNatCast',R0,j454_2, *];exact qf (by simp only[simprocAttr, -Int.reduceNatCast',R0,qg,p454,Rs.ev,qc, *])
set_option maxHeartbeats 8000000 in
theorem k454_1_2(z3_0:Int)(z3_1:List Int)(z3_2:List (List (List Int)))(z3_3:List (List Int))(y4:Int)(y5:Int)(y6:Int)(y7:List (List Int))(y8:Int)(z11_0:Int)(z11_1:List Int)(z11_2:List (List (List Int)))(z11_3:List (List Int))(y12:Int)(y13:Int)(y14:Int)(y15:List (List Int))(y16:Int){r:Bool}(hF:F454_91 z3_0 z3_1 z3_2 z3_3 y4 y5 y6 y7 y8 z11_0 z11_1 z11_2 z11_3 y12 y13 y14 y15 y16=some r){ck:Nat}{e:Env}(hC:e.length=329∧e.at 3=V.ptr 0 0 0∧e.at 4=V.int .i64 y4∧e.at 5=V.int .i64 y5∧e.at 6=V.int .i64 y6∧e.at 7=V.isl (y7.map enc)∧e.at 8=V.int .i64 y8∧e.at 11=V.ptr 1 1 0∧e.at 12=V.int .i64 y12∧e.at 13=V.int .i64 y13∧e.at 14=V.int .i64 y14∧e.at 15=V.isl (y15.map enc)∧e.at 16=V.int .i64 y16):W A xr e ⟨[(0,some [V.int .i64 z3_0,V.isl (z3_1.map enc),V.isl (z3_2.map enc),V.isl (z3_3.map enc)]),(1,some [V.int .i64 z11_0,V.isl (z11_1.map enc),V.isl (z11_2.map enc),V.isl (z11_3.map enc)])],ck⟩ (Fin p454 (enc r)):=by
 obtain⟨hl_21,h3_21,h4_21,h5_21,h6_21,h7_21,h8_21,h11_21,h12_21,h13_21,h14_21,h15_21,h16_21⟩:=hC;unfold F454_91 at hF;obtain⟨x22,gx22,hF⟩:=bS hF;have w23:ans A 428 [V.agg [V.int .i64 z11_0,V.isl (z11_1.map enc),V.isl (z11_2.map enc),V.isl (z11_3.map enc)],V.int .i64 y12,V.int .i64 y13,V.int .i64 y14]=some (V.tup [V.isl (x22.a.map enc),V.int .i64 x22.b]):=s428 ⟨⟨z11_0,z11_1,z11_2⟩,z11_3⟩ y12 y13 y14 gx22;obtain⟨x24,gx24,hF⟩:=bS hF;have w25:ans A 429 [V.agg [V.int .i64 z11_0,V.isl (z11_1.map enc),V.isl (z11_2.map enc),V.isl (z11_3.map enc)],V.int .i64 y12,V.int .i64 y13,V.int .i64 y14]=some (V.tup [V.isl (x24.a.map enc),V.int .i64 x24.b]):=s429 ⟨⟨z11_0,z11_1,z11_2⟩,z11_3⟩ y12 y13 y14 gx24;by_cases c26:x22.b=x24.b
 ·rw[if_pos c26]at hF
  obtain⟨x27,gx27,hF⟩:=bS hF;have w28:ans A 160 [V.isl (x22.a.map enc),V.isl (x24.a.map enc)]=some (V.bool x27):=s160 x22.a x24.a gx27;cases x27 with
  |true=>
   rw[if_pos rfl]at hF;obtain⟨x29,gx29,hF⟩:=bS hF;have w30:ans A 430 [V.agg [V.int .i64 z11_0,V.isl (z11_1.map enc),V.isl (z11_2.map enc),V.isl (z11_3.map enc)],V.int .i64 y12,V.int .i64 y13,V.int .i64 y14]=some (V.tup [V.isl (x29.a.map enc),V.int .i64 x29.b]):=s430 ⟨⟨z11_0,z11_1,z11_2⟩,z11_3⟩ y12 y13 y14 gx29;obtain⟨x31,gx31,hF⟩:=bS hF;have w32:ans A 431 [V.agg [V.int .i64 z11_0,V.isl (z11_1.map enc),V.isl (z11_2.map enc),V.isl (z11_3.map enc)],V.int .i64 y12,V.int .i64 y13,V.int .i64 y14]=some (V.tup [V.isl (x31.a.map enc),V.int .i64 x31.b]):=s431 ⟨⟨z11_0,z11_1,z11_2⟩,z11_3⟩ y12 y13 y14 gx31;by_cases c33:x29.b=x31.b
   ·rw[if_pos c33]at hF
    obtain⟨x34,gx34,hF⟩:=bS hF;have w35:ans A 160 [V.isl (x29.a.map enc),V.isl (x31.a.map enc)]=some (V.bool x34):=s160 x29.a x31.a gx34;cases x34 with
    |true=>
     rw[if_pos rfl]at hF;by_cases c36:y16=0
     ·rw[if_pos c36]at hF
      obtain⟨x37,gx37,hF⟩:=bS hF;have w38:ans A 151 [V.agg [V.int .i64 z11_0,V.isl (z11_1.map enc),V.isl (z11_2.map enc),V.isl (z11_3.map enc)],V.int .i64 y12,V.int .i64 y13,V.int .i64 y14]=some (V.tup [V.int .i64 x37.a,V.int .i64 x37.b]):=s151 ⟨⟨z11_0,z11_1,z11_2⟩,z11_3⟩ y12 y13 y14 gx37;by_cases c39:x37.b=0
      ·rw[if_pos c39]at hF
       by_cases c40:(y15.length:Int)=x37.a
       ·rw[if_pos c40]at hF
        obtain⟨x41,gx41,hF⟩:=bS hF;have wx41:=qz gx41;by_cases c42:x41=(x22.a.length:Int)
        ·rw[if_pos c42]at hF
         obtain⟨x43,gx43,hF⟩:=bS hF;obtain⟨w44a,w44b⟩:=qk gx43;obtain⟨x45,gx45,hF⟩:=bS hF;have w46:ans A 432 [V.int .i64 z11_0,V.int .i64 x43,V.isl (y15.map enc),V.isl (x29.a.map enc)]=some (V.tup [V.isl (x45.a.map enc),V.int .i64 x45.b]):=s432 z11_0 x43 y15 x29.a gx45;by_cases c47:x45.b=0
         ·rw[if_pos c47]at hF
          obtain⟨x48,gx48,hF⟩:=bS hF;have w49:ans A 160 [V.isl (x45.a.map enc),V.isl (x22.a.map enc)]=some (V.bool x48):=s160 x45.a x22.a gx48;cases x48 with
          |true=>
           rw[if_pos rfl]at hF;simp only[simprocAttr, -Int.reduceNatCast',R0,xr,hl_21,h3_21,h4_21,h5_21,h6_21,h7_21,h8_21,h11_21,h12_21,h13_21,h14_21,h15_21,h16_21,w23,w25,eq_true c26,w28,w30,w32,eq_true c33,w35,eq_true c36,w38,eq_true c39,eq_true c40,wx41,eq_true c42,w44a,w44b,w46,eq_true c47,w49];refine k454_2_2 _ z3_0 z3_1 z3_2 z3_3 y4 y5 y6 y7 y8 hF ?_;simp only[simprocAttr, -Int.reduceNatCast',R0,hl_21,h3_21,h4_21,h5_21,h6_21,h7_21,h8_21,h11_21,h12_21,h13_21,h14_21,h15_21,h16_21,w23,w25,eq_true c26,w28,w30,w32,eq_true c33,w35,eq_true c36,w38,eq_true c39,eq_true c40,wx41,eq_true c42,w44a,w44b,w46,eq_true c47,w49]
          |false=>
           rw[if_neg wE]at hF;have hE:=wA hF; subst hE;simp only[simprocAttr, -Int.reduceNatCast',R0,xr,hl_21,h3_21,h4_21,h5_21,h6_21,h7_21,h8_21,h11_21,h12_21,h13_21,h14_21,h15_21,h16_21,w23,w25,eq_true c26,w28,w30,w32,eq_true c33,w35,eq_true c36,w38,eq_true c39,eq_true c40,wx41,eq_true c42,w44a,w44b,w46,eq_true c47,w49];exact qf (by simp only[simprocAttr, -Int.reduceNatCast',R0,qg,p454,Rs.ev,qc,hl_21,h3_21,h4_21,h5_21,h6_21,h7_21,h8_21,h11_21,h12_21,h13_21,h14_21,h15_21,h16_21,w23,w25,eq_true c26,w28,w30,w32,eq_true c33,w35,eq_true c36,w38,eq_true c39,eq_true c40,wx41,eq_true c42,w44a,w44b,w46,eq_true c47,w49])
         ·rw[if_neg c47]at hF
          simp only[simprocAttr, -Int.reduceNatCast',R0,xr,hl_21,h3_21,h4_21,h5_21,h6_21,h7_21,h8_21,h11_21,h12_21,h13_21,h14_21,h15_21,h16_21,w23,w25,eq_true c26,w28,w30,w32,eq_true c33,w35,eq_true c36,w38,eq_true c39,eq_true c40,wx41,eq_true c42,w44a,w44b,w46,eq_false c47];refine k454_2_2 _ z3_0 z3_1 z3_2 z3_3 y4 y5 y6 y7 y8 hF ?_;simp only[simprocAttr, -Int.reduceNatCast',R0,hl_21,h3_21,h4_21,h5_21,h6_21,h7_21,h8_21,h11_21,h12_21,h13_21,h14_21,h15_21,h16_21,w23,w25,eq_true c26,w28,w30,w32,eq_true c33,w35,eq_true c36,w38,eq_true c39,eq_true c40,wx41,eq_true c42,w44a,w44b,w46,eq_false c47]
        ·rw[if_neg c42]at hF
         have hE:=wA hF; subst hE;simp only[simprocAttr, -Int.reduceNatCast',R0,xr,hl_21,h3_21,h4_21,h5_21,h6_21,h7_21,h8_21,h11_21,h12_21,h13_21,h14_21,h15_21,h16_21,w23,w25,eq_true c26,w28,w30,w32,eq_true c33,w35,eq_true c36,w38,eq_true c39,eq_true c40,wx41,eq_false c42];exact qf (by simp only[simprocAttr, -Int.reduceNatCast',R0,qg,p454,Rs.ev,qc,hl_21,h3_21,h4_21,h5_21,h6_21,h7_21,h8_21,h11_21,h12_21,h13_21,h14_21,h15_21,h16_21,w23,w25,eq_true c26,w28,w30,w32,eq_true c33,w35,eq_true c36,w38,eq_true c39,eq_true c40,wx41,eq_false c42])
       ·rw[if_neg c40]at hF
        have hE:=wA hF; subst hE;simp only[simprocAttr, -Int.reduceNatCast',R0,xr,hl_21,h3_21,h4_21,h5_21,h6_21,h7_21,h8_21,h11_21,h12_21,h13_21,h14_21,h15_21,h16_21,w23,w25,eq_true c26,w28,w30,w32,eq_true c33,w35,eq_true c36,w38,eq_true c39,eq_false c40];exact qf (by simp only[simprocAttr, -Int.reduceNatCast',R0,qg,p454,Rs.ev,qc,hl_21,h3_21,h4_21,h5_21,h6_21,h7_21,h8_21,h11_21,h12_21,h13_21,h14_21,h15_21,h16_21,w23,w25,eq_true c26,w28,w30,w32,eq_true c33,w35,eq_true c36,w38,eq_true c39,eq_false c40])
      ·rw[if_neg c39]at hF
       have hE:=wA hF; subst hE;simp only[simprocAttr, -Int.reduceNatCast',R0,xr,hl_21,h3_21,h4_21,h5_21,h6_21,h7_21,h8_21,h11_21,h12_21,h13_21,h14_21,h15_21,h16_21,w23,w25,eq_true c26,w28,w30,w32,eq_true c33,w35,eq_true c36,w38,eq_false c39];exact qf (by simp only[simprocAttr, -Int.reduceNatCast',R0,qg,p454,Rs.ev,qc,hl_21,h3_21,h4_21,h5_21,h6_21,h7_21,h8_21,h11_21,h12_21,h13_21,h14_21,h15_21,h16_21,w23,w25,eq_true c26,w28,w30,w32,eq_true c33,w35,eq_true c36,w38,eq_false c39])
     ·rw[if_neg c36]at hF
      simp only[simprocAttr, -Int.reduceNatCast',R0,xr,hl_21,h3_21,h4_21,h5_21,h6_21,h7_21,h8_21,h11_21,h12_21,h13_21,h14_21,h15_21,h16_21,w23,w25,eq_true c26,w28,w30,w32,eq_true c33,w35,eq_false c36];refine k454_2_2 _ z3_0 z3_1 z3_2 z3_3 y4 y5 y6 y7 y8 hF ?_;simp only[simprocAttr, -Int.reduceNatCast',R0,hl_21,h3_21,h4_21,h5_21,h6_21,h7_21,h8_21,h11_21,h12_21,h13_21,h14_21,h15_21,h16_21,w23,w25,eq_true c26,w28,w30,w32,eq_true c33,w35,eq_false c36]
    |false=>
     rw[if_neg wE]at hF;have hE:=wA hF; subst hE;simp only[simprocAttr, -Int.reduceNatCast',R0,xr,hl_21,h3_21,h4_21,h5_21,h6_21,h7_21,h8_21,h11_21,h12_21,h13_21,h14_21,h15_21,h16_21,w23,w25,eq_true c26,w28,w30,w32,eq_true c33,w35];exact qf (by simp only[simprocAttr, -Int.reduceNatCast',R0,qg,p454,Rs.ev,qc,hl_21,h3_21,h4_21,h5_21,h6_21,h7_21,h8_21,h11_21,h12_21,h13_21,h14_21,h15_21,h16_21,w23,w25,eq_true c26,w28,w30,w32,eq_true c33,w35])
   ·rw[if_neg c33]at hF
    have hE:=wA hF; subst hE;simp only[simprocAttr, -Int.reduceNatCast',R0,xr,hl_21,h3_21,h4_21,h5_21,h6_21,h7_21,h8_21,h11_21,h12_21,h13_21,h14_21,h15_21,h16_21,w23,w25,eq_true c26,w28,w30,w32,eq_false c33];exact qf (by simp only[simprocAttr, -Int.reduceNatCast',R0,qg,p454,Rs.ev,qc,hl_21,h3_21,h4_21,h5_21,h6_21,h7_21,h8_21,h11_21,h12_21,h13_21,h14_21,h15_21,h16_21,w23,w25,eq_true c26,w28,w30,w32,eq_false c33])
  |false=>
   rw[if_neg wE]at hF;have hE:=wA hF; subst hE;simp only[simprocAttr, -Int.reduceNatCast',R0,xr,hl_21,h3_21,h4_21,h5_21,h6_21,h7_21,h8_21,h11_21,h12_21,h13_21,h14_21,h15_21,h16_21,w23,w25,eq_true c26,w28];exact qf (by simp only[simprocAttr, -Int.reduceNatCast',R0,qg,p454,Rs.ev,qc,hl_21,h3_21,h4_21,h5_21,h6_21,h7_21,h8_21,h11_21,h12_21,h13_21,h14_21,h15_21,h16_21,w23,w25,eq_true c26,w28])
 ·rw[if_neg c26]at hF
  have hE:=wA hF; subst hE;simp only[simprocAttr, -Int.reduceNatCast',R0,xr,hl_21,h3_21,h4_21,h5_21,h6_21,h7_21,h8_21,h11_21,h12_21,h13_21,h14_21,h15_21,h16_21,w23,w25,eq_false c26];exact qf (by simp only[simprocAttr, -Int.reduceNatCast',R0,qg,p454,Rs.ev,qc,hl_21,h3_21,h4_21,h5_21,h6_21,h7_21,h8_21,h11_21,h12_21,h13_21,h14_21,h15_21,h16_21,w23,w25,eq_false c26])
theorem s454(a0:List U8){r:Bool}(hF:F454 a0=some r):ans A 454 [V.isl (a0.map enc)]=some (enc r):=by
 refine qw (f:=p454) rfl rfl rfl fun e hl he=>?_;have h0_0:e.at 0=V.isl (a0.map enc):=he 0 _ rfl;have hl_0:e.length=329:=hl;clear he hl;have h_0:=ai hl_0 h0_0;show W A b454 e ⟨[],0⟩ _;unfold F454 at hF;obtain⟨x1,gx1,hF⟩:=bS hF;have w2:ans A 140 [V.isl (a0.map enc)]=some (V.bool x1):=s140 a0 gx1;cases x1 with
 |true=>
  rw[if_pos rfl]at hF;cases hF;simp only[simprocAttr,R0,b454, *];exact qf (by simp only[simprocAttr,R0,qg,p454,Rs.ev,qc, *])
 |false=>
  rw[if_neg wE]at hF;obtain⟨x3,gx3,hF⟩:=bS hF;have w4:ans A 426 [V.isl (a0.map enc)]=some (V.tup [V.agg [V.int .i64 x3.a.Complex.Prime,V.isl (x3.a.Complex.Dims.map enc),V.isl (x3.a.Complex.Maps.map enc),V.isl (x3.a.Levels.map enc)],V.int .i64 x3.b,V.int .i64 x3.c,V.int .i64 x3.d]):=s426 a0 gx3;obtain⟨x5,gx5,hF⟩:=bS hF;have w6:ans A 324 [V.agg [V.int .i64 x3.a.Complex.Prime,V.isl (x3.a.Complex.Dims.map enc),V.isl (x3.a.Complex.Maps.map enc),V.isl (x3.a.Levels.map enc)],V.int .i64 x3.b,V.int .i64 x3.c,V.int .i64 x3.d]=some (V.tup [V.isl (x5.a.map enc),V.int .i64 x5.b]):=s324 x3.a x3.b x3.c x3.d gx5;obtain⟨x7,gx7,hF⟩:=bS hF;have w8:ans A 323 [V.agg [V.int .i64 x3.a.Complex.Prime,V.isl (x3.a.Complex.Dims.map enc),V.isl (x3.a.Complex.Maps.map enc),V.isl (x3.a.Levels.map enc)],V.int .i64 x3.b,V.int .i64 x3.c,V.int .i64 x3.d]=some (V.tup [V.isl (x7.a.map enc),V.int .i64 x7.b]):=s323 x3.a x3.b x3.c x3.d gx7;by_cases c9:x5.b=x7.b
  ·rw[if_pos c9]at hF
   obtain⟨x10,gx10,hF⟩:=bS hF;have w11:ans A 160 [V.isl (x5.a.map enc),V.isl (x7.a.map enc)]=some (V.bool x10):=s160 x5.a x7.a gx10;cases x10 with
   |true=>
    rw[if_pos rfl]at hF;obtain⟨x12,gx12,hF⟩:=bS hF;have w13:ans A 427 [V.isl (a0.map enc)]=some (V.tup [V.agg [V.int .i64 x12.a.Complex.Prime,V.isl (x12.a.Complex.Dims.map enc),V.isl (x12.a.Complex.Maps.map enc),V.isl (x12.a.Levels.map enc)],V.int .i64 x12.b,V.int .i64 x12.c,V.int .i64 x12.d]):=s427 a0 gx12;obtain⟨x14,gx14,hF⟩:=bS hF;have w15:ans A 322 [V.agg [V.int .i64 x12.a.Complex.Prime,V.isl (x12.a.Complex.Dims.map enc),V.isl (x12.a.Complex.Maps.map enc),V.isl (x12.a.Levels.map enc)],V.int .i64 x12.b,V.int .i64 x12.c,V.int .i64 x12.d]=some (V.tup [V.isl (x14.a.map enc),V.int .i64 x14.b]):=s322 x12.a x12.b x12.c x12.d gx14;obtain⟨x16,gx16,hF⟩:=bS hF;have w17:ans A 321 [V.agg [V.int .i64 x12.a.Complex.Prime,V.isl (x12.a.Complex.Dims.map enc),V.isl (x12.a.Complex.Maps.map enc),V.isl (x12.a.Levels.map enc)],V.int .i64 x12.b,V.int .i64 x12.c,V.int .i64 x12.d]=some (V.tup [V.isl (x16.a.map enc),V.int .i64 x16.b]):=s321 x12.a x12.b x12.c x12.d gx16;by_cases c18:x14.b=x16.b
    ·rw[if_pos c18]at hF
     obtain⟨x19,gx19,hF⟩:=bS hF;have w20:ans A 160 [V.isl (x14.a.map enc),V.isl (x16.a.map enc)]=some (V.bool x19):=s160 x14.a x16.a gx19;cases x19 with
     |true=>
      rw[if_pos rfl]at hF;simp only[simprocAttr,R0,b454, *];refine k454_1_2 x3.a.Complex.Prime x3.a.Complex.Dims x3.a.Complex.Maps x3.a.Levels x3.b x3.c x3.d x5.a x5.b x12.a.Complex.Prime x12.a.Complex.Dims x12.a.Complex.Maps x12.a.Levels x12.b x12.c x12.d x14.a x14.b hF ?_;simp only[simprocAttr,R0, *]
     |false=>
      rw[if_neg wE]at hF;cases hF;simp only[simprocAttr,R0,b454, *];exact qf (by simp only[simprocAttr,R0,qg,p454,Rs.ev,qc, *])
    ·rw[if_neg c18]at hF
     cases hF;simp only[simprocAttr,R0,b454, *];exact qf (by simp only[simprocAttr,R0,qg,p454,Rs.ev,qc, *])
   |false=>
    rw[if_neg wE]at hF;cases hF;simp only[simprocAttr,R0,b454, *];exact qf (by simp only[simprocAttr,R0,qg,p454,Rs.ev,qc, *])
  ·rw[if_neg c9]at hF
   cases hF;simp only[simprocAttr,R0,b454, *];exact qf (by simp only[simprocAttr,R0,qg,p454,Rs.ev,qc, *])
end
end Rv
