/- What the abstract code answers: typed functions, part 2. -/
import Derived.Test.YtfecoipgcigamaaGreatCms0
namespace Rv
set_option linter.unusedVariables false
set_option linter.unusedSimpArgs false
set_option maxRecDepth 100000
noncomputable section
def F354_1_B(a0:GComplex)(a1:List (List (List Int)))(x1:GComplex)(v11_1:Int)(o3_1:(List Int)):Option (((List Int))⊕((List Int))):=
 (getI o3_1 v11_1).bind fun x7=>
(F283 a0 v11_1).bind fun x9=>
(chk (x7+x9)).bind fun x11=>
(app 8 o3_1 [x11]).bind fun l13=>
some (.inl l13)
def F354_1_D(a0:GComplex)(a1:List (List (List Int)))(x1:GComplex)(v11_1:Int)(o3_1:(List Int)):Option ((List Int)):=
 some o3_1
def F354_2_S(a0:GComplex)(a1:List (List (List Int)))(x1:GComplex)(zo3_1:List Int)(s:(List Int)×Int):Option (((List Int)×Int)⊕((List Int))):=
 match s with
 |(o4_2,v12_2)=>
  if v12_2≤(a0.Dims.length:Int)then
   (getI o4_2 v12_2).bind fun x20=>
   (F283 x1 v12_2).bind fun x22=>
   (chk (x20+x22)).bind fun x24=>
   (app 8 o4_2 [x24]).bind fun l26=>
   (chk (v12_2+1)).bind fun x27=>
   some (.inl (l26,x27))
  else
   some (.inr o4_2)
def F354_4_B(a0:GComplex)(a1:List (List (List Int)))(x1:GComplex)(zo3_1:List Int)(zo4_2:List Int)(v14_3:Int)(x41:List (List Int))(x43:List (List Int))(x45:List (List Int))(x47:List (List Int))(v19_4:Int)(s:(List (List Int))×(List (List Int))×Int×Int×Int):Option (((List (List Int))×(List (List Int))×Int×Int×Int)⊕((List (List Int))×(List (List Int))×Int×Int×Int)):=
 match s with
 |(o5_4,o6_4,q8_0_4,q8_1_4,q8_2_4)=>
  (getI a1 v14_3).bind fun x54=>
  (getI x41 v19_4).bind fun x56=>
  (getI a0.Dims v14_3).bind fun x58=>
  (F80 a0.Prime x54 x56 x58).bind fun x60=>
  (F134 a0.Prime x43 x60).bind fun x62=>
  (F359 x41 x62).bind fun x64=>
  (getI zo3_1 v14_3).bind fun x66=>
  (F360 x64 x66 q8_1_4).bind fun x68=>
  (app 24 o5_4 [x68]).bind fun l71=>
  (F94 x56).bind fun x72=>
  (chk (v14_3 - 1)).bind fun x74=>
  (F99 a0 x74).bind fun x75=>
  (appZ 8 x72 x75 0).bind fun l78=>
  (F134 a0.Prime x47 l78).bind fun x79=>
  (F359 x45 x79).bind fun x81=>
  (getI zo4_2 v14_3).bind fun x83=>
  (F360 x81 x83 q8_2_4).bind fun x85=>
  (app 24 o6_4 [x85]).bind fun l88=>
  some (.inl (l71,l88,q8_0_4,q8_1_4,q8_2_4))
def F354_4_D(a0:GComplex)(a1:List (List (List Int)))(x1:GComplex)(zo3_1:List Int)(zo4_2:List Int)(v14_3:Int)(x41:List (List Int))(x43:List (List Int))(x45:List (List Int))(x47:List (List Int))(v19_4:Int)(s:(List (List Int))×(List (List Int))×Int×Int×Int):Option ((List (List Int))×(List (List Int))×Int×Int×Int):=
 match s with
 |(o5_4,o6_4,q8_0_4,q8_1_4,q8_2_4)=>
  some (o5_4,o6_4,q8_0_4,q8_1_4,q8_2_4)
def F354_3_B(a0:GComplex)(a1:List (List (List Int)))(x1:GComplex)(zo3_1:List Int)(zo4_2:List Int)(v14_3:Int)(s:(List (List Int))×(List (List Int))×Int×Int×Int):Option (((List (List Int))×(List (List Int))×Int×Int×Int)⊕((List (List Int))×(List (List Int))×Int×Int×Int)):=
 match s with
 |(o5_3,o6_3,q8_0_3,q8_1_3,q8_2_3)=>
  (F358 a0 v14_3).bind fun x41=>
  (F251 a0 v14_3).bind fun x43=>
  (F358 x1 v14_3).bind fun x45=>
  (F251 x1 v14_3).bind fun x47=>
  (forR 0 (x41.length:Int) (F354_4_B a0 a1 x1 zo3_1 zo4_2 v14_3 x41 x43 x45 x47) (F354_4_D a0 a1 x1 zo3_1 zo4_2 v14_3 x41 x43 x45 x47) (o5_3,o6_3,q8_0_3,q8_1_3,q8_2_3)).bind fun t89=> match t89 with
   |(zo5_4,zo6_4,zq8_0_4,zq8_1_4,zq8_2_4)=>
    some (.inl (zo5_4,zo6_4,zq8_0_4,zq8_1_4,zq8_2_4))
def F354_3_D(a0:GComplex)(a1:List (List (List Int)))(x1:GComplex)(zo3_1:List Int)(zo4_2:List Int)(v14_3:Int)(s:(List (List Int))×(List (List Int))×Int×Int×Int):Option ((List (List Int))×(List (List Int))×Int×Int×Int):=
 match s with
 |(o5_3,o6_3,q8_0_3,q8_1_3,q8_2_3)=>
  some (o5_3,o6_3,q8_0_3,q8_1_3,q8_2_3)
def F354_6_B(a0:GComplex)(x1:GComplex)(zo3_1:List Int)(zo4_2:List Int)(zo5_3:List (List Int))(zo6_3:List (List Int))(v22_5:Int)(x96:List (List Int))(v24_6:Int)(s:(List (List Int))×Int×Int×Int):Option (((List (List Int))×Int×Int×Int)⊕((List (List Int))×Int×Int×Int)):=
 match s with
 |(o7_6,q8_0_6,q8_1_6,q8_2_6)=>
  if v22_5=0 then
   (mkL 8 q8_1_6 0).bind fun l103=>
   (app 24 o7_6 [l103]).bind fun l106=>
   some (.inl (l106,q8_0_6,q8_1_6,q8_2_6))
  else
   (chk (v22_5 - 1)).bind fun x107=>
   (F251 a0 x107).bind fun x108=>
   (getI x96 v24_6).bind fun x110=>
   (F99 a0 v22_5).bind fun x112=>
   (slI x110 x112 (x110.length:Int)).bind fun l114=>
   (F134 a0.Prime x108 l114).bind fun x116=>
   (F358 a0 x107).bind fun x118=>
   (F359 x118 x116).bind fun x120=>
   (getI zo3_1 x107).bind fun x122=>
   (F360 x120 x122 q8_1_6).bind fun x124=>
   (app 24 o7_6 [x124]).bind fun l127=>
   some (.inl (l127,q8_0_6,q8_1_6,q8_2_6))
def F354_6_D(a0:GComplex)(x1:GComplex)(zo3_1:List Int)(zo4_2:List Int)(zo5_3:List (List Int))(zo6_3:List (List Int))(v22_5:Int)(x96:List (List Int))(v24_6:Int)(s:(List (List Int))×Int×Int×Int):Option ((List (List Int))×Int×Int×Int):=
 match s with
 |(o7_6,q8_0_6,q8_1_6,q8_2_6)=>
  some (o7_6,q8_0_6,q8_1_6,q8_2_6)
def F354_5_S(a0:GComplex)(x1:GComplex)(zo3_1:List Int)(zo4_2:List Int)(zo5_3:List (List Int))(zo6_3:List (List Int))(s:(List (List Int))×Int×Int×Int×Int):Option (((List (List Int))×Int×Int×Int×Int)⊕((List (List Int))×Int×Int×Int)):=
 match s with
 |(o7_5,q8_0_5,q8_1_5,q8_2_5,v22_5)=>
  if v22_5≤(a0.Dims.length:Int)then
   (F358 x1 v22_5).bind fun x96=>
   (forR 0 (x96.length:Int) (F354_6_B a0 x1 zo3_1 zo4_2 zo5_3 zo6_3 v22_5 x96) (F354_6_D a0 x1 zo3_1 zo4_2 zo5_3 zo6_3 v22_5 x96) (o7_5,q8_0_5,q8_1_5,q8_2_5)).bind fun t128=> match t128 with
    |(zo7_6,zq8_0_6,zq8_1_6,zq8_2_6)=>
     (chk (v22_5+1)).bind fun x129=>
     some (.inl (zo7_6,zq8_0_6,zq8_1_6,zq8_2_6,x129))
  else
   some (.inr (o7_5,q8_0_5,q8_1_5,q8_2_5))
def F354(a0:GComplex)(a1:List (List (List Int))):Option (T2 GCouple Bool):=
 (F243 a0 a0 a1).bind fun x1=>
 (forR 0 (a0.Dims.length:Int) (F354_1_B a0 a1 x1) (F354_1_D a0 a1 x1) [0]).bind fun zo3_1=>
 (loopW (F354_2_S a0 a1 x1 zo3_1) ([0],0)).bind fun zo4_2=>
 (getI zo3_1 (a0.Dims.length:Int)).bind fun x29=>
 (chk ((a0.Dims.length:Int)+1)).bind fun x31=>
 (getI zo4_2 x31).bind fun x32=>
 if 24 < x29 then
  some ⟨⟨0,0,0,[],[],[]⟩,false⟩
 else
  if 24 < x32 then
   some ⟨⟨0,0,0,[],[],[]⟩,false⟩
  else
   (forR 0 (a0.Dims.length:Int) (F354_3_B a0 a1 x1 zo3_1 zo4_2) (F354_3_D a0 a1 x1 zo3_1 zo4_2) ([],[],a0.Prime,x29,x32)).bind fun t90=> match t90 with
    |(zo5_3,zo6_3,zq8_0_3,zq8_1_3,zq8_2_3)=>
     (loopW (F354_5_S a0 x1 zo3_1 zo4_2 zo5_3 zo6_3) ([],zq8_0_3,zq8_1_3,zq8_2_3,0)).bind fun t130=> match t130 with
      |(zo7_5,zq8_0_5,zq8_1_5,zq8_2_5)=>
       some ⟨⟨zq8_0_5,zq8_1_5,zq8_2_5,zo5_3,zo6_3,zo7_5⟩,true⟩
def I354_1(a0:GComplex)(a1:List (List (List Int)))(x1:GComplex)(v11_1:Int)(o3_1:(List Int))(e:Env)(h:Heap):Prop:=
 ∃u4 k5:Nat,h=⟨[(0,none),(1,some [V.int .i64 0,V.int .i64 0,V.int .i64 0,V.nils,V.nils,V.nils]),(2,some [V.int .i64 x1.Prime,V.isl (x1.Dims.map Enc.enc),V.isl (x1.Maps.map Enc.enc)]),(u4,some (o3_1.map Enc.enc)),(4,some [V.int .i64 0])],k5⟩∧e.length=234∧e.at 1=V.isl (a1.map Enc.enc)∧e.at 2=V.iptr [V.int .i64 a0.Prime,V.isl (a0.Dims.map Enc.enc),V.isl (a0.Maps.map Enc.enc)]∧e.at 4=V.ptr 1 1 0∧e.at 6=V.int .i64 a0.Prime∧e.at 7=V.ptr 2 2 0∧e.at 8=V.int .i64 (a0.Dims.length:Int)∧e.at 9=V.sl 3 u4 0 o3_1.length 1∧e.at 10=V.sl 4 4 0 1 1∧e.at 11=V.int .i64 v11_1
def P354_1(a0:GComplex)(a1:List (List (List Int)))(x1:GComplex)(zo3_1:(List Int))(x:Ex)(e:Env)(h:Heap):Prop:=
 x= .normal∧∃u4 k5:Nat,h=⟨[(0,none),(1,some [V.int .i64 0,V.int .i64 0,V.int .i64 0,V.nils,V.nils,V.nils]),(2,some [V.int .i64 x1.Prime,V.isl (x1.Dims.map Enc.enc),V.isl (x1.Maps.map Enc.enc)]),(u4,some (zo3_1.map Enc.enc)),(4,some [V.int .i64 0])],k5⟩∧e.length=234∧e.at 1=V.isl (a1.map Enc.enc)∧e.at 2=V.iptr [V.int .i64 a0.Prime,V.isl (a0.Dims.map Enc.enc),V.isl (a0.Maps.map Enc.enc)]∧e.at 4=V.ptr 1 1 0∧e.at 6=V.int .i64 a0.Prime∧e.at 7=V.ptr 2 2 0∧e.at 8=V.int .i64 (a0.Dims.length:Int)∧e.at 9=V.sl 3 u4 0 zo3_1.length 1∧e.at 10=V.sl 4 4 0 1 1
theorem l354_1(a0:GComplex)(a1:List (List (List Int)))(x1:GComplex){lo:Int}{s:(List Int)}{t:(List Int)}(hF:forR lo (a0.Dims.length:Int) (F354_1_B a0 a1 x1) (F354_1_D a0 a1 x1) s=some t){e:Env}{h:Heap}(hI:I354_1 a0 a1 x1 lo s e h):W A c354_1 e h (P354_1 a0 a1 x1 t):=by
 show W A (.block 0 (.loop false b354_1)) e h _;rw[W_block];refine W_forR hF 5 (by obtain⟨_,_,rfl,_⟩:=hI; rfl) (I354_1 a0 a1 x1) hI ?_ ?_
 ·rintro v11_1 o3_1 e h ⟨u4,k5,rfl,h_3⟩ hlt hw o ho
  unfold F354_1_B at ho;obtain⟨x7,gx7,ho⟩:=bS ho;obtain⟨w8a,w8b⟩:=getI_w gx7;have w8c:=getI_lt gx7;have w8d:List.drop (Int.toNat v11_1) (o3_1.map Enc.enc)=(V.int .i64 x7)::List.drop ((Int.toNat v11_1)+1) (o3_1.map Enc.enc):=drop_enc w8b;obtain⟨x9,gx9,ho⟩:=bS ho;have w10:ans A 283 [(eC a0),V.int .i64 v11_1]=some (V.int .i64 x9):=s283 a0 v11_1 gx9;obtain⟨x11,gx11,ho⟩:=bS ho;have wx11:=chk_w gx11;obtain⟨l13,gl13,ho⟩:=bS ho;have w12:=fun a b c d e=> appendV_w (α:=Int) (n:=o3_1.length) (m:=1) (ds:=[V.int .i64 x11]) gl13 (by first|rfl|simp) (by first|rfl|simp) rfl a b c d e;have w12l:=app_len gl13;cases ho;simp only[simprocAttr,R0,b354_1,h_3,eq_true hlt,hw,w8a,w8b,w8c,w8d,w10,wx11,w12];refine ai rfl (ei _ (ei _ (ai rfl ?_)));simp only[simprocAttr,R0,h_3,eq_true hlt,hw,w8a,w8b,w8c,w8d,w10,wx11,w12]
 ·rintro v11_1 o3_1 e h ⟨u4,k5,rfl,h_3⟩ hge t1 ho
  unfold F354_1_D at ho;cases ho;simp only[simprocAttr,R0,b354_1,h_3,eq_false hge];intro ht; subst ht;refine ai rfl (ei _ (ei _ (ai rfl ?_)));simp only[simprocAttr,R0,h_3,eq_false hge]
def I354_2(a0:GComplex)(a1:List (List (List Int)))(x1:GComplex)(zo3_1:List Int)(u4:Nat)(s:(List Int)×Int)(e:Env)(h:Heap):Prop:=
 match s with
 |(o4_2,v12_2)=>
  ∃u16 k17:Nat,h=⟨[(0,none),(1,some [V.int .i64 0,V.int .i64 0,V.int .i64 0,V.nils,V.nils,V.nils]),(2,some [V.int .i64 x1.Prime,V.isl (x1.Dims.map Enc.enc),V.isl (x1.Maps.map Enc.enc)]),(u4,some (zo3_1.map Enc.enc)),(u16,some (o4_2.map Enc.enc))],k17⟩∧e.length=234∧e.at 1=V.isl (a1.map Enc.enc)∧e.at 2=V.iptr [V.int .i64 a0.Prime,V.isl (a0.Dims.map Enc.enc),V.isl (a0.Maps.map Enc.enc)]∧e.at 4=V.ptr 1 1 0∧e.at 6=V.int .i64 a0.Prime∧e.at 7=V.ptr 2 2 0∧e.at 8=V.int .i64 (a0.Dims.length:Int)∧e.at 9=V.sl 3 u4 0 zo3_1.length 1∧e.at 10=V.sl 4 u16 0 o4_2.length 1∧e.at 12=V.int .i64 v12_2
def P354_2(a0:GComplex)(a1:List (List (List Int)))(x1:GComplex)(zo3_1:List Int)(u4:Nat)(zo4_2:(List Int))(x:Ex)(e:Env)(h:Heap):Prop:=
 x= .normal∧∃u16 k17:Nat,h=⟨[(0,none),(1,some [V.int .i64 0,V.int .i64 0,V.int .i64 0,V.nils,V.nils,V.nils]),(2,some [V.int .i64 x1.Prime,V.isl (x1.Dims.map Enc.enc),V.isl (x1.Maps.map Enc.enc)]),(u4,some (zo3_1.map Enc.enc)),(u16,some (zo4_2.map Enc.enc))],k17⟩∧e.length=234∧e.at 1=V.isl (a1.map Enc.enc)∧e.at 2=V.iptr [V.int .i64 a0.Prime,V.isl (a0.Dims.map Enc.enc),V.isl (a0.Maps.map Enc.enc)]∧e.at 4=V.ptr 1 1 0∧e.at 6=V.int .i64 a0.Prime∧e.at 7=V.ptr 2 2 0∧e.at 8=V.int .i64 (a0.Dims.length:Int)∧e.at 9=V.sl 3 u4 0 zo3_1.length 1∧e.at 10=V.sl 4 u16 0 zo4_2.length 1
theorem l354_2(a0:GComplex)(a1:List (List (List Int)))(x1:GComplex)(zo3_1:List Int)(u4:Nat){s:(List Int)×Int}{t:(List Int)}(hF:loopW (F354_2_S a0 a1 x1 zo3_1) s=some t){e:Env}{h:Heap}(hI:I354_2 a0 a1 x1 zo3_1 u4 s e h):W A c354_2 e h (P354_2 a0 a1 x1 zo3_1 u4 t):=by
 show W A (.block 2 (.loop false b354_2)) e h _;rw[W_block];refine W_loop hF 5 (by rcases s with⟨_,_⟩; obtain⟨_,_,rfl,_⟩:=hI; rfl) (I354_2 a0 a1 x1 zo3_1 u4) hI ?_
 ·rintro⟨o4_2,v12_2⟩ e h ⟨u16,k17,rfl,h_15⟩ o ho
  unfold F354_2_S at ho;dsimp only at ho;by_cases c19:v12_2≤(a0.Dims.length:Int)
  ·rw[if_pos c19]at ho
   obtain⟨x20,gx20,ho⟩:=bS ho;obtain⟨w21a,w21b⟩:=getI_w gx20;have w21c:=getI_lt gx20;have w21d:List.drop (Int.toNat v12_2) (o4_2.map Enc.enc)=(V.int .i64 x20)::List.drop ((Int.toNat v12_2)+1) (o4_2.map Enc.enc):=drop_enc w21b;obtain⟨x22,gx22,ho⟩:=bS ho;have w23:ans A 283 [(eC x1),V.int .i64 v12_2]=some (V.int .i64 x22):=s283 x1 v12_2 gx22;obtain⟨x24,gx24,ho⟩:=bS ho;have wx24:=chk_w gx24;obtain⟨l26,gl26,ho⟩:=bS ho;have w25:=fun a b c d e=> appendV_w (α:=Int) (n:=o4_2.length) (m:=1) (ds:=[V.int .i64 x24]) gl26 (by first|rfl|simp) (by first|rfl|simp) rfl a b c d e;have w25l:=app_len gl26;obtain⟨x27,gx27,ho⟩:=bS ho;have wx27:=chk_w gx27;cases ho;simp only[simprocAttr,R0,b354_2,h_15,eq_true c19,w21a,w21b,w21c,w21d,w23,wx24,w25,wx27];refine ai rfl (ei _ (ei _ (ai rfl ?_)));simp only[simprocAttr,R0,h_15,eq_true c19,w21a,w21b,w21c,w21d,w23,wx24,w25,wx27]
  ·rw[if_neg c19]at ho
   cases ho;simp only[simprocAttr,R0,b354_2,h_15,eq_false c19];intro ht; subst ht;simp only[simprocAttr,RR,RB];refine ai rfl (ei _ (ei _ (ai rfl ?_)));simp only[simprocAttr,R0,h_15,eq_false c19]
def I354_4(a0:GComplex)(a1:List (List (List Int)))(x1:GComplex)(zo3_1:List Int)(zo4_2:List Int)(v14_3:Int)(x41:List (List Int))(x43:List (List Int))(x45:List (List Int))(x47:List (List Int))(u4 u16 k17:Nat)(v19_4:Int)(s:(List (List Int))×(List (List Int))×Int×Int×Int)(e:Env)(h:Heap):Prop:=
 match s with
 |(o5_4,o6_4,q8_0_4,q8_1_4,q8_2_4)=>
  ∃u50 u51 k52:Nat,h=⟨[(0,none),(1,some [V.int .i64 0,V.int .i64 0,V.int .i64 0,V.nils,V.nils,V.nils]),(2,some [V.int .i64 x1.Prime,V.isl (x1.Dims.map Enc.enc),V.isl (x1.Maps.map Enc.enc)]),(u4,some (zo3_1.map Enc.enc)),(u16,some (zo4_2.map Enc.enc)),(u50,some (o5_4.map Enc.enc)),(u51,some (o6_4.map Enc.enc)),((k17+2),some []),((k17+3),some [V.int .i64 q8_0_4,V.int .i64 q8_1_4,V.int .i64 q8_2_4,V.sl 5 u50 0 o5_4.length 1,V.sl 6 u51 0 o6_4.length 1,V.sl 7 (k17+2) 0 0 1])],k52⟩∧e.length=234∧e.at 1=V.isl (a1.map Enc.enc)∧e.at 2=V.iptr [V.int .i64 a0.Prime,V.isl (a0.Dims.map Enc.enc),V.isl (a0.Maps.map Enc.enc)]∧e.at 4=V.ptr 1 1 0∧e.at 6=V.int .i64 a0.Prime∧e.at 7=V.ptr 2 2 0∧e.at 8=V.int .i64 (a0.Dims.length:Int)∧e.at 9=V.sl 3 u4 0 zo3_1.length 1∧e.at 10=V.sl 4 u16 0 zo4_2.length 1∧e.at 13=V.ptr 8 (k17+3) 0∧e.at 14=V.int .i64 v14_3∧e.at 15=V.isl (x41.map Enc.enc)∧e.at 16=V.isl (x43.map Enc.enc)∧e.at 17=V.isl (x45.map Enc.enc)∧e.at 18=V.isl (x47.map Enc.enc)∧e.at 19=V.int .i64 v19_4
def P354_4(a0:GComplex)(a1:List (List (List Int)))(x1:GComplex)(zo3_1:List Int)(zo4_2:List Int)(v14_3:Int)(x41:List (List Int))(x43:List (List Int))(x45:List (List Int))(x47:List (List Int))(u4 u16 k17:Nat)(t:(List (List Int))×(List (List Int))×Int×Int×Int)(x:Ex)(e:Env)(h:Heap):Prop:=
 match t with
 |(zo5_4,zo6_4,zq8_0_4,zq8_1_4,zq8_2_4)=>
  x= .normal∧∃u50 u51 k52:Nat,h=⟨[(0,none),(1,some [V.int .i64 0,V.int .i64 0,V.int .i64 0,V.nils,V.nils,V.nils]),(2,some [V.int .i64 x1.Prime,V.isl (x1.Dims.map Enc.enc),V.isl (x1.Maps.map Enc.enc)]),(u4,some (zo3_1.map Enc.enc)),(u16,some (zo4_2.map Enc.enc)),(u50,some (zo5_4.map Enc.enc)),(u51,some (zo6_4.map Enc.enc)),((k17+2),some []),((k17+3),some [V.int .i64 zq8_0_4,V.int .i64 zq8_1_4,V.int .i64 zq8_2_4,V.sl 5 u50 0 zo5_4.length 1,V.sl 6 u51 0 zo6_4.length 1,V.sl 7 (k17+2) 0 0 1])],k52⟩∧e.length=234∧e.at 1=V.isl (a1.map Enc.enc)∧e.at 2=V.iptr [V.int .i64 a0.Prime,V.isl (a0.Dims.map Enc.enc),V.isl (a0.Maps.map Enc.enc)]∧e.at 4=V.ptr 1 1 0∧e.at 6=V.int .i64 a0.Prime∧e.at 7=V.ptr 2 2 0∧e.at 8=V.int .i64 (a0.Dims.length:Int)∧e.at 9=V.sl 3 u4 0 zo3_1.length 1∧e.at 10=V.sl 4 u16 0 zo4_2.length 1∧e.at 13=V.ptr 8 (k17+3) 0∧e.at 14=V.int .i64 v14_3
theorem l354_4(a0:GComplex)(a1:List (List (List Int)))(x1:GComplex)(zo3_1:List Int)(zo4_2:List Int)(v14_3:Int)(x41:List (List Int))(x43:List (List Int))(x45:List (List Int))(x47:List (List Int))(u4 u16 k17:Nat){lo:Int}{s:(List (List Int))×(List (List Int))×Int×Int×Int}{t:(List (List Int))×(List (List Int))×Int×Int×Int}(hF:forR lo (x41.length:Int) (F354_4_B a0 a1 x1 zo3_1 zo4_2 v14_3 x41 x43 x45 x47) (F354_4_D a0 a1 x1 zo3_1 zo4_2 v14_3 x41 x43 x45 x47) s=some t){e:Env}{h:Heap}(hI:I354_4 a0 a1 x1 zo3_1 zo4_2 v14_3 x41 x43 x45 x47 u4 u16 k17 lo s e h):W A c354_4 e h (P354_4 a0 a1 x1 zo3_1 zo4_2 v14_3 x41 x43 x45 x47 u4 u16 k17 t):=by
 show W A (.block 6 (.loop false b354_4)) e h _;rw[W_block];refine W_forR hF 9 (by rcases s with⟨_,_,_,_,_⟩; obtain⟨_,_,_,rfl,_⟩:=hI; rfl) (I354_4 a0 a1 x1 zo3_1 zo4_2 v14_3 x41 x43 x45 x47 u4 u16 k17) hI ?_ ?_
 ·rintro v19_4 ⟨o5_4,o6_4,q8_0_4,q8_1_4,q8_2_4⟩ e h ⟨u50,u51,k52,rfl,h_49⟩ hlt hw o ho
  unfold F354_4_B at ho;dsimp only at ho;obtain⟨x54,gx54,ho⟩:=bS ho;obtain⟨w55a,w55b⟩:=getI_w gx54;obtain⟨x56,gx56,ho⟩:=bS ho;obtain⟨w57a,w57b⟩:=getI_w gx56;obtain⟨x58,gx58,ho⟩:=bS ho;obtain⟨w59a,w59b⟩:=getI_w gx58;obtain⟨x60,gx60,ho⟩:=bS ho;have w61:ans A 80 [V.int .i64 a0.Prime,V.isl (x54.map Enc.enc),V.isl (x56.map Enc.enc),V.int .i64 x58]=some (V.isl (x60.map Enc.enc)):=s80 a0.Prime x54 x56 x58 gx60;obtain⟨x62,gx62,ho⟩:=bS ho;have w63:ans A 134 [V.int .i64 a0.Prime,V.isl (x43.map Enc.enc),V.isl (x60.map Enc.enc)]=some (V.isl (x62.map Enc.enc)):=s134 a0.Prime x43 x60 gx62;obtain⟨x64,gx64,ho⟩:=bS ho;have w65:ans A 359 [V.isl (x41.map Enc.enc),V.isl (x62.map Enc.enc)]=some (V.isl (x64.map Enc.enc)):=s359 x41 x62 gx64;obtain⟨x66,gx66,ho⟩:=bS ho;obtain⟨w67a,w67b⟩:=getI_w gx66;have w67c:=getI_lt gx66;have w67d:List.drop (Int.toNat v14_3) (zo3_1.map Enc.enc)=(V.int .i64 x66)::List.drop ((Int.toNat v14_3)+1) (zo3_1.map Enc.enc):=drop_enc w67b;obtain⟨x68,gx68,ho⟩:=bS ho;have w69:ans A 360 [V.isl (x64.map Enc.enc),V.int .i64 x66,V.int .i64 q8_1_4]=some (V.isl (x68.map Enc.enc)):=s360 x64 x66 q8_1_4 gx68;obtain⟨l71,gl71,ho⟩:=bS ho;have w70:=fun a b c d e=> appendV_w (α:=List Int) (n:=o5_4.length) (m:=1) (ds:=[V.isl (x68.map Enc.enc)]) gl71 (by first|rfl|simp) (by first|rfl|simp) rfl a b c d e;have w70l:=app_len gl71;obtain⟨x72,gx72,ho⟩:=bS ho;have w73:tans A 94 [1] [V.isl (x56.map Enc.enc)]=some (V.isl (x72.map Enc.enc)):=t94 x56 gx72;have w73t:=thaw_one (α:=Int) x72;obtain⟨x74,gx74,ho⟩:=bS ho;have wx74:=chk_w gx74;obtain⟨x75,gx75,ho⟩:=bS ho;have w76:ans A 99 [(eC a0),V.int .i64 x74]=some (V.int .i64 x75):=s99 a0 x74 gx75;obtain⟨l78,gl78,ho⟩:=bS ho;obtain⟨w77a,w77b,w77c,w77d,w77e,w77f⟩:=appZ_w gl78;replace w77f:List.map Enc.enc (List.replicate (Int.toNat x75) (0:Int))=(List.replicate (Int.toNat x75) [V.int .i64 0]).flatten:=w77f;have w77:=fun a b c d e=> appendV_w (α:=Int) (n:=x72.length) (m:=(Int.toNat x75)) (ds:=(List.replicate (Int.toNat x75) [V.int .i64 0]).flatten) w77d (by first|rfl|simp) w77e w77f a b c d e;have w77l:=app_len w77d;obtain⟨x79,gx79,ho⟩:=bS ho;have w80:ans A 134 [V.int .i64 a0.Prime,V.isl (x47.map Enc.enc),V.isl (l78.map Enc.enc)]=some (V.isl (x79.map Enc.enc)):=s134 a0.Prime x47 l78 gx79;obtain⟨x81,gx81,ho⟩:=bS ho;have w82:ans A 359 [V.isl (x45.map Enc.enc),V.isl (x79.map Enc.enc)]=some (V.isl (x81.map Enc.enc)):=s359 x45 x79 gx81;obtain⟨x83,gx83,ho⟩:=bS ho;obtain⟨w84a,w84b⟩:=getI_w gx83;have w84c:=getI_lt gx83;have w84d:List.drop (Int.toNat v14_3) (zo4_2.map Enc.enc)=(V.int .i64 x83)::List.drop ((Int.toNat v14_3)+1) (zo4_2.map Enc.enc):=drop_enc w84b;obtain⟨x85,gx85,ho⟩:=bS ho;have w86:ans A 360 [V.isl (x81.map Enc.enc),V.int .i64 x83,V.int .i64 q8_2_4]=some (V.isl (x85.map Enc.enc)):=s360 x81 x83 q8_2_4 gx85;obtain⟨l88,gl88,ho⟩:=bS ho;have w87:=fun a b c d e=> appendV_w (α:=List Int) (n:=o6_4.length) (m:=1) (ds:=[V.isl (x85.map Enc.enc)]) gl88 (by first|rfl|simp) (by first|rfl|simp) rfl a b c d e;have w87l:=app_len gl88;cases ho;simp only[simprocAttr, -Int.reduceNatCast',R0,b354_4,h_49,eq_true hlt,hw,w55a,w55b,w57a,w57b,w59a,w59b,w61,w63,w65,w67a,w67b,w67c,w67d,w69,w70,w73,w73t,wx74,w76,w77a,w77b,w77c,w77,takes (α:=Int) l78,w80,w82,w84a,w84b,w84c,w84d,w86,w87];refine ai rfl (ei _ (ei _ (ei _ (ai rfl ?_))));simp only[simprocAttr, -Int.reduceNatCast',R0,h_49,eq_true hlt,hw,w55a,w55b,w57a,w57b,w59a,w59b,w61,w63,w65,w67a,w67b,w67c,w67d,w69,w70,w73,w73t,wx74,w76,w77a,w77b,w77c,w77,takes (α:=Int) l78,w80,w82,w84a,w84b,w84c,w84d,w86,w87]
 ·rintro v19_4 ⟨o5_4,o6_4,q8_0_4,q8_1_4,q8_2_4⟩ e h ⟨u50,u51,k52,rfl,h_49⟩ hge t1 ho
  unfold F354_4_D at ho;dsimp only at ho;cases ho;simp only[simprocAttr, -Int.reduceNatCast',R0,b354_4,h_49,eq_false hge];intro ht; subst ht;refine ai rfl (ei _ (ei _ (ei _ (ai rfl ?_))));simp only[simprocAttr, -Int.reduceNatCast',R0,h_49,eq_false hge]
def I354_3(a0:GComplex)(a1:List (List (List Int)))(x1:GComplex)(zo3_1:List Int)(zo4_2:List Int)(u4 u16 k17:Nat)(v14_3:Int)(s:(List (List Int))×(List (List Int))×Int×Int×Int)(e:Env)(h:Heap):Prop:=
 match s with
 |(o5_3,o6_3,q8_0_3,q8_1_3,q8_2_3)=>
  ∃u37 u38 k39:Nat,h=⟨[(0,none),(1,some [V.int .i64 0,V.int .i64 0,V.int .i64 0,V.nils,V.nils,V.nils]),(2,some [V.int .i64 x1.Prime,V.isl (x1.Dims.map Enc.enc),V.isl (x1.Maps.map Enc.enc)]),(u4,some (zo3_1.map Enc.enc)),(u16,some (zo4_2.map Enc.enc)),(u37,some (o5_3.map Enc.enc)),(u38,some (o6_3.map Enc.enc)),((k17+2),some []),((k17+3),some [V.int .i64 q8_0_3,V.int .i64 q8_1_3,V.int .i64 q8_2_3,V.sl 5 u37 0 o5_3.length 1,V.sl 6 u38 0 o6_3.length 1,V.sl 7 (k17+2) 0 0 1])],k39⟩∧e.length=234∧e.at 1=V.isl (a1.map Enc.enc)∧e.at 2=V.iptr [V.int .i64 a0.Prime,V.isl (a0.Dims.map Enc.enc),V.isl (a0.Maps.map Enc.enc)]∧e.at 4=V.ptr 1 1 0∧e.at 6=V.int .i64 a0.Prime∧e.at 7=V.ptr 2 2 0∧e.at 8=V.int .i64 (a0.Dims.length:Int)∧e.at 9=V.sl 3 u4 0 zo3_1.length 1∧e.at 10=V.sl 4 u16 0 zo4_2.length 1∧e.at 13=V.ptr 8 (k17+3) 0∧e.at 14=V.int .i64 v14_3
def P354_3(a0:GComplex)(a1:List (List (List Int)))(x1:GComplex)(zo3_1:List Int)(zo4_2:List Int)(u4 u16 k17:Nat)(t:(List (List Int))×(List (List Int))×Int×Int×Int)(x:Ex)(e:Env)(h:Heap):Prop:=
 match t with
 |(zo5_3,zo6_3,zq8_0_3,zq8_1_3,zq8_2_3)=>
  x= .normal∧∃u37 u38 k39:Nat,h=⟨[(0,none),(1,some [V.int .i64 0,V.int .i64 0,V.int .i64 0,V.nils,V.nils,V.nils]),(2,some [V.int .i64 x1.Prime,V.isl (x1.Dims.map Enc.enc),V.isl (x1.Maps.map Enc.enc)]),(u4,some (zo3_1.map Enc.enc)),(u16,some (zo4_2.map Enc.enc)),(u37,some (zo5_3.map Enc.enc)),(u38,some (zo6_3.map Enc.enc)),((k17+2),some []),((k17+3),some [V.int .i64 zq8_0_3,V.int .i64 zq8_1_3,V.int .i64 zq8_2_3,V.sl 5 u37 0 zo5_3.length 1,V.sl 6 u38 0 zo6_3.length 1,V.sl 7 (k17+2) 0 0 1])],k39⟩∧e.length=234∧e.at 2=V.iptr [V.int .i64 a0.Prime,V.isl (a0.Dims.map Enc.enc),V.isl (a0.Maps.map Enc.enc)]∧e.at 4=V.ptr 1 1 0∧e.at 6=V.int .i64 a0.Prime∧e.at 7=V.ptr 2 2 0∧e.at 8=V.int .i64 (a0.Dims.length:Int)∧e.at 9=V.sl 3 u4 0 zo3_1.length 1∧e.at 13=V.ptr 8 (k17+3) 0
theorem l354_3(a0:GComplex)(a1:List (List (List Int)))(x1:GComplex)(zo3_1:List Int)(zo4_2:List Int)(u4 u16 k17:Nat){lo:Int}{s:(List (List Int))×(List (List Int))×Int×Int×Int}{t:(List (List Int))×(List (List Int))×Int×Int×Int}(hF:forR lo (a0.Dims.length:Int) (F354_3_B a0 a1 x1 zo3_1 zo4_2) (F354_3_D a0 a1 x1 zo3_1 zo4_2) s=some t){e:Env}{h:Heap}(hI:I354_3 a0 a1 x1 zo3_1 zo4_2 u4 u16 k17 lo s e h):W A c354_3 e h (P354_3 a0 a1 x1 zo3_1 zo4_2 u4 u16 k17 t):=by
 show W A (.block 4 (.loop false b354_3)) e h _;rw[W_block];refine W_forR hF 9 (by rcases s with⟨_,_,_,_,_⟩; obtain⟨_,_,_,rfl,_⟩:=hI; rfl) (I354_3 a0 a1 x1 zo3_1 zo4_2 u4 u16 k17) hI ?_ ?_
 ·rintro v14_3 ⟨o5_3,o6_3,q8_0_3,q8_1_3,q8_2_3⟩ e h ⟨u37,u38,k39,rfl,h_36⟩ hlt hw o ho
  unfold F354_3_B at ho;dsimp only at ho;obtain⟨x41,gx41,ho⟩:=bS ho;have w42:ans A 358 [(eC a0),V.int .i64 v14_3]=some (V.isl (x41.map Enc.enc)):=s358 a0 v14_3 gx41;obtain⟨x43,gx43,ho⟩:=bS ho;have w44:ans A 251 [(eC a0),V.int .i64 v14_3]=some (V.isl (x43.map Enc.enc)):=s251 a0 v14_3 gx43;obtain⟨x45,gx45,ho⟩:=bS ho;have w46:ans A 358 [(eC x1),V.int .i64 v14_3]=some (V.isl (x45.map Enc.enc)):=s358 x1 v14_3 gx45;obtain⟨x47,gx47,ho⟩:=bS ho;have w48:ans A 251 [(eC x1),V.int .i64 v14_3]=some (V.isl (x47.map Enc.enc)):=s251 x1 v14_3 gx47;obtain⟨⟨zo5_4,zo6_4,zq8_0_4,zq8_1_4,zq8_2_4⟩,gt89,ho⟩:=bS ho;dsimp only at ho;simp only[simprocAttr,R0,b354_3,h_36,eq_true hlt,hw,w42,w44,w46,w48];refine W.mono (l354_4 a0 a1 x1 zo3_1 zo4_2 v14_3 x41 x43 x45 x47 u4 u16 k17 gt89 (ei _ (ei _ (ei _ (ai rfl ?_))))) ?_
  ·simp only[simprocAttr,R0,h_36,eq_true hlt,hw,w42,w44,w46,w48]
  rintro _ e _ ⟨rfl,u50,u51,k52,rfl,h_53⟩;cases ho;simp only[simprocAttr,R0,h_53,eq_true hlt,hw];refine ai rfl (ei _ (ei _ (ei _ (ai rfl ?_))));simp only[simprocAttr,R0,h_53,eq_true hlt,hw]
 ·rintro v14_3 ⟨o5_3,o6_3,q8_0_3,q8_1_3,q8_2_3⟩ e h ⟨u37,u38,k39,rfl,h_36⟩ hge t1 ho
  unfold F354_3_D at ho;dsimp only at ho;cases ho;simp only[simprocAttr,R0,b354_3,h_36,eq_false hge];intro ht; subst ht;refine ai rfl (ei _ (ei _ (ei _ (ai rfl ?_))));simp only[simprocAttr,R0,h_36,eq_false hge]
def I354_6(a0:GComplex)(x1:GComplex)(zo3_1:List Int)(zo4_2:List Int)(zo5_3:List (List Int))(zo6_3:List (List Int))(v22_5:Int)(x96:List (List Int))(u4 u16 k17 u37 u38:Nat)(v24_6:Int)(s:(List (List Int))×Int×Int×Int)(e:Env)(h:Heap):Prop:=
 match s with
 |(o7_6,q8_0_6,q8_1_6,q8_2_6)=>
  ∃u99 k100:Nat,h=⟨[(0,none),(1,some [V.int .i64 0,V.int .i64 0,V.int .i64 0,V.nils,V.nils,V.nils]),(2,some [V.int .i64 x1.Prime,V.isl (x1.Dims.map Enc.enc),V.isl (x1.Maps.map Enc.enc)]),(u4,some (zo3_1.map Enc.enc)),(u16,some (zo4_2.map Enc.enc)),(u37,some (zo5_3.map Enc.enc)),(u38,some (zo6_3.map Enc.enc)),(u99,some (o7_6.map Enc.enc)),((k17+3),some [V.int .i64 q8_0_6,V.int .i64 q8_1_6,V.int .i64 q8_2_6,V.sl 5 u37 0 zo5_3.length 1,V.sl 6 u38 0 zo6_3.length 1,V.sl 7 u99 0 o7_6.length 1])],k100⟩∧e.length=234∧e.at 2=V.iptr [V.int .i64 a0.Prime,V.isl (a0.Dims.map Enc.enc),V.isl (a0.Maps.map Enc.enc)]∧e.at 4=V.ptr 1 1 0∧e.at 6=V.int .i64 a0.Prime∧e.at 7=V.ptr 2 2 0∧e.at 8=V.int .i64 (a0.Dims.length:Int)∧e.at 9=V.sl 3 u4 0 zo3_1.length 1∧e.at 13=V.ptr 8 (k17+3) 0∧e.at 22=V.int .i64 v22_5∧e.at 23=V.isl (x96.map Enc.enc)∧e.at 24=V.int .i64 v24_6
def P354_6(a0:GComplex)(x1:GComplex)(zo3_1:List Int)(zo4_2:List Int)(zo5_3:List (List Int))(zo6_3:List (List Int))(v22_5:Int)(x96:List (List Int))(u4 u16 k17 u37 u38:Nat)(t:(List (List Int))×Int×Int×Int)(x:Ex)(e:Env)(h:Heap):Prop:=
 match t with
 |(zo7_6,zq8_0_6,zq8_1_6,zq8_2_6)=>
  x= .normal∧∃u99 k100:Nat,h=⟨[(0,none),(1,some [V.int .i64 0,V.int .i64 0,V.int .i64 0,V.nils,V.nils,V.nils]),(2,some [V.int .i64 x1.Prime,V.isl (x1.Dims.map Enc.enc),V.isl (x1.Maps.map Enc.enc)]),(u4,some (zo3_1.map Enc.enc)),(u16,some (zo4_2.map Enc.enc)),(u37,some (zo5_3.map Enc.enc)),(u38,some (zo6_3.map Enc.enc)),(u99,some (zo7_6.map Enc.enc)),((k17+3),some [V.int .i64 zq8_0_6,V.int .i64 zq8_1_6,V.int .i64 zq8_2_6,V.sl 5 u37 0 zo5_3.length 1,V.sl 6 u38 0 zo6_3.length 1,V.sl 7 u99 0 zo7_6.length 1])],k100⟩∧e.length=234∧e.at 2=V.iptr [V.int .i64 a0.Prime,V.isl (a0.Dims.map Enc.enc),V.isl (a0.Maps.map Enc.enc)]∧e.at 4=V.ptr 1 1 0∧e.at 6=V.int .i64 a0.Prime∧e.at 7=V.ptr 2 2 0∧e.at 8=V.int .i64 (a0.Dims.length:Int)∧e.at 9=V.sl 3 u4 0 zo3_1.length 1∧e.at 13=V.ptr 8 (k17+3) 0∧e.at 22=V.int .i64 v22_5
theorem l354_6(a0:GComplex)(x1:GComplex)(zo3_1:List Int)(zo4_2:List Int)(zo5_3:List (List Int))(zo6_3:List (List Int))(v22_5:Int)(x96:List (List Int))(u4 u16 k17 u37 u38:Nat){lo:Int}{s:(List (List Int))×Int×Int×Int}{t:(List (List Int))×Int×Int×Int}(hF:forR lo (x96.length:Int) (F354_6_B a0 x1 zo3_1 zo4_2 zo5_3 zo6_3 v22_5 x96) (F354_6_D a0 x1 zo3_1 zo4_2 zo5_3 zo6_3 v22_5 x96) s=some t){e:Env}{h:Heap}(hI:I354_6 a0 x1 zo3_1 zo4_2 zo5_3 zo6_3 v22_5 x96 u4 u16 k17 u37 u38 lo s e h):W A c354_6 e h (P354_6 a0 x1 zo3_1 zo4_2 zo5_3 zo6_3 v22_5 x96 u4 u16 k17 u37 u38 t):=by
 show W A (.block 10 (.loop false b354_6)) e h _;rw[W_block];refine W_forR hF 9 (by rcases s with⟨_,_,_,_⟩; obtain⟨_,_,rfl,_⟩:=hI; rfl) (I354_6 a0 x1 zo3_1 zo4_2 zo5_3 zo6_3 v22_5 x96 u4 u16 k17 u37 u38) hI ?_ ?_
 ·rintro v24_6 ⟨o7_6,q8_0_6,q8_1_6,q8_2_6⟩ e h ⟨u99,k100,rfl,h_98⟩ hlt hw o ho
  unfold F354_6_B at ho;dsimp only at ho;by_cases c102:v22_5=0
  ·rw[if_pos c102]at ho
   obtain⟨l103,gl103,ho⟩:=bS ho;obtain⟨w104a,w104b,w104c,w104d,w104e⟩:=mkL_w gl103;replace w104e:(List.replicate (Int.toNat q8_1_6) [V.int .i64 0]).flatten=List.map Enc.enc l103:=w104e;obtain⟨l106,gl106,ho⟩:=bS ho;have w105:=fun a b c d e=> appendV_w (α:=List Int) (n:=o7_6.length) (m:=1) (ds:=[V.isl (l103.map Enc.enc)]) gl106 (by first|rfl|simp only[w104d]) (by first|rfl|simp only[w104d]) rfl a b c d e;have w105l:=app_len gl106;cases ho;simp only[simprocAttr, -Int.reduceNatCast',R0,b354_6,h_98,eq_true hlt,hw,eq_true c102,w104a,w104b,w104c,w104e,takes (α:=Int) l103,take_len (α:=Int) (l:=l103) (n:=(Int.toNat q8_1_6)) (by first|rfl|simp only[w104d]),le_of_len (α:=Int) (l:=l103) (n:=(Int.toNat q8_1_6)) (by first|rfl|simp only[w104d]),w105];refine ai rfl (ei _ (ei _ (ai rfl ?_)));simp only[simprocAttr, -Int.reduceNatCast',R0,h_98,eq_true hlt,hw,eq_true c102,w104a,w104b,w104c,w104e,takes (α:=Int) l103,take_len (α:=Int) (l:=l103) (n:=(Int.toNat q8_1_6)) (by first|rfl|simp only[w104d]),le_of_len (α:=Int) (l:=l103) (n:=(Int.toNat q8_1_6)) (by first|rfl|simp only[w104d]),w105,w104d]
  ·rw[if_neg c102]at ho
   obtain⟨x107,gx107,ho⟩:=bS ho;have wx107:=chk_w gx107;obtain⟨x108,gx108,ho⟩:=bS ho;have w109:ans A 251 [(eC a0),V.int .i64 x107]=some (V.isl (x108.map Enc.enc)):=s251 a0 x107 gx108;obtain⟨x110,gx110,ho⟩:=bS ho;obtain⟨w111a,w111b⟩:=getI_w gx110;obtain⟨x112,gx112,ho⟩:=bS ho;have w113:ans A 99 [(eC a0),V.int .i64 v22_5]=some (V.int .i64 x112):=s99 a0 v22_5 gx112;obtain⟨l114,gl114,ho⟩:=bS ho;have w115:sliceV 1 (V.isl (x110.map Enc.enc)) (some (V.int .i64 x112)) none=some (V.isl (l114.map Enc.enc)):=sliceV_w (α:=Int) One.one gl114 (.inr rfl) (.inl ⟨rfl,rfl⟩);obtain⟨x116,gx116,ho⟩:=bS ho;have w117:ans A 134 [V.int .i64 a0.Prime,V.isl (x108.map Enc.enc),V.isl (l114.map Enc.enc)]=some (V.isl (x116.map Enc.enc)):=s134 a0.Prime x108 l114 gx116;obtain⟨x118,gx118,ho⟩:=bS ho;have w119:ans A 358 [(eC a0),V.int .i64 x107]=some (V.isl (x118.map Enc.enc)):=s358 a0 x107 gx118;obtain⟨x120,gx120,ho⟩:=bS ho;have w121:ans A 359 [V.isl (x118.map Enc.enc),V.isl (x116.map Enc.enc)]=some (V.isl (x120.map Enc.enc)):=s359 x118 x116 gx120;obtain⟨x122,gx122,ho⟩:=bS ho;obtain⟨w123a,w123b⟩:=getI_w gx122;have w123c:=getI_lt gx122;have w123d:List.drop (Int.toNat x107) (zo3_1.map Enc.enc)=(V.int .i64 x122)::List.drop ((Int.toNat x107)+1) (zo3_1.map Enc.enc):=drop_enc w123b;obtain⟨x124,gx124,ho⟩:=bS ho;have w125:ans A 360 [V.isl (x120.map Enc.enc),V.int .i64 x122,V.int .i64 q8_1_6]=some (V.isl (x124.map Enc.enc)):=s360 x120 x122 q8_1_6 gx124;obtain⟨l127,gl127,ho⟩:=bS ho;have w126:=fun a b c d e=> appendV_w (α:=List Int) (n:=o7_6.length) (m:=1) (ds:=[V.isl (x124.map Enc.enc)]) gl127 (by first|rfl|simp) (by first|rfl|simp) rfl a b c d e;have w126l:=app_len gl127;cases ho;simp only[simprocAttr, -Int.reduceNatCast',R0,b354_6,h_98,eq_true hlt,hw,eq_false c102,wx107,w109,w111a,w111b,w113,w115,w117,w119,w121,w123a,w123b,w123c,w123d,w125,w126];refine ai rfl (ei _ (ei _ (ai rfl ?_)));simp only[simprocAttr, -Int.reduceNatCast',R0,h_98,eq_true hlt,hw,eq_false c102,wx107,w109,w111a,w111b,w113,w115,w117,w119,w121,w123a,w123b,w123c,w123d,w125,w126]
 ·rintro v24_6 ⟨o7_6,q8_0_6,q8_1_6,q8_2_6⟩ e h ⟨u99,k100,rfl,h_98⟩ hge t1 ho
  unfold F354_6_D at ho;dsimp only at ho;cases ho;simp only[simprocAttr, -Int.reduceNatCast',R0,b354_6,h_98,eq_false hge];intro ht; subst ht;refine ai rfl (ei _ (ei _ (ai rfl ?_)));simp only[simprocAttr, -Int.reduceNatCast',R0,h_98,eq_false hge]
def I354_5(a0:GComplex)(x1:GComplex)(zo3_1:List Int)(zo4_2:List Int)(zo5_3:List (List Int))(zo6_3:List (List Int))(u4 u16 k17 u37 u38:Nat)(s:(List (List Int))×Int×Int×Int×Int)(e:Env)(h:Heap):Prop:=
 match s with
 |(o7_5,q8_0_5,q8_1_5,q8_2_5,v22_5)=>
  ∃u92 k93:Nat,h=⟨[(0,none),(1,some [V.int .i64 0,V.int .i64 0,V.int .i64 0,V.nils,V.nils,V.nils]),(2,some [V.int .i64 x1.Prime,V.isl (x1.Dims.map Enc.enc),V.isl (x1.Maps.map Enc.enc)]),(u4,some (zo3_1.map Enc.enc)),(u16,some (zo4_2.map Enc.enc)),(u37,some (zo5_3.map Enc.enc)),(u38,some (zo6_3.map Enc.enc)),(u92,some (o7_5.map Enc.enc)),((k17+3),some [V.int .i64 q8_0_5,V.int .i64 q8_1_5,V.int .i64 q8_2_5,V.sl 5 u37 0 zo5_3.length 1,V.sl 6 u38 0 zo6_3.length 1,V.sl 7 u92 0 o7_5.length 1])],k93⟩∧e.length=234∧e.at 2=V.iptr [V.int .i64 a0.Prime,V.isl (a0.Dims.map Enc.enc),V.isl (a0.Maps.map Enc.enc)]∧e.at 4=V.ptr 1 1 0∧e.at 6=V.int .i64 a0.Prime∧e.at 7=V.ptr 2 2 0∧e.at 8=V.int .i64 (a0.Dims.length:Int)∧e.at 9=V.sl 3 u4 0 zo3_1.length 1∧e.at 13=V.ptr 8 (k17+3) 0∧e.at 22=V.int .i64 v22_5
def P354_5(a0:GComplex)(x1:GComplex)(zo3_1:List Int)(zo4_2:List Int)(zo5_3:List (List Int))(zo6_3:List (List Int))(u4 u16 k17 u37 u38:Nat)(t:(List (List Int))×Int×Int×Int)(x:Ex)(e:Env)(h:Heap):Prop:=
 match t with
 |(zo7_5,zq8_0_5,zq8_1_5,zq8_2_5)=>
  x= .normal∧∃u92 k93:Nat,h=⟨[(0,none),(1,some [V.int .i64 0,V.int .i64 0,V.int .i64 0,V.nils,V.nils,V.nils]),(2,some [V.int .i64 x1.Prime,V.isl (x1.Dims.map Enc.enc),V.isl (x1.Maps.map Enc.enc)]),(u4,some (zo3_1.map Enc.enc)),(u16,some (zo4_2.map Enc.enc)),(u37,some (zo5_3.map Enc.enc)),(u38,some (zo6_3.map Enc.enc)),(u92,some (zo7_5.map Enc.enc)),((k17+3),some [V.int .i64 zq8_0_5,V.int .i64 zq8_1_5,V.int .i64 zq8_2_5,V.sl 5 u37 0 zo5_3.length 1,V.sl 6 u38 0 zo6_3.length 1,V.sl 7 u92 0 zo7_5.length 1])],k93⟩∧e.length=234∧e.at 4=V.ptr 1 1 0∧e.at 13=V.ptr 8 (k17+3) 0
theorem l354_5(a0:GComplex)(x1:GComplex)(zo3_1:List Int)(zo4_2:List Int)(zo5_3:List (List Int))(zo6_3:List (List Int))(u4 u16 k17 u37 u38:Nat){s:(List (List Int))×Int×Int×Int×Int}{t:(List (List Int))×Int×Int×Int}(hF:loopW (F354_5_S a0 x1 zo3_1 zo4_2 zo5_3 zo6_3) s=some t){e:Env}{h:Heap}(hI:I354_5 a0 x1 zo3_1 zo4_2 zo5_3 zo6_3 u4 u16 k17 u37 u38 s e h):W A c354_5 e h (P354_5 a0 x1 zo3_1 zo4_2 zo5_3 zo6_3 u4 u16 k17 u37 u38 t):=by
 show W A (.block 8 (.loop false b354_5)) e h _;rw[W_block];refine W_loop hF 9 (by rcases s with⟨_,_,_,_,_⟩; obtain⟨_,_,rfl,_⟩:=hI; rfl) (I354_5 a0 x1 zo3_1 zo4_2 zo5_3 zo6_3 u4 u16 k17 u37 u38) hI ?_
 ·rintro⟨o7_5,q8_0_5,q8_1_5,q8_2_5,v22_5⟩ e h ⟨u92,k93,rfl,h_91⟩ o ho
  unfold F354_5_S at ho;dsimp only at ho;by_cases c95:v22_5≤(a0.Dims.length:Int)
  ·rw[if_pos c95]at ho
   obtain⟨x96,gx96,ho⟩:=bS ho;have w97:ans A 358 [(eC x1),V.int .i64 v22_5]=some (V.isl (x96.map Enc.enc)):=s358 x1 v22_5 gx96;obtain⟨⟨zo7_6,zq8_0_6,zq8_1_6,zq8_2_6⟩,gt128,ho⟩:=bS ho;dsimp only at ho;simp only[simprocAttr,R0,b354_5,h_91,eq_true c95,w97];refine W.mono (l354_6 a0 x1 zo3_1 zo4_2 zo5_3 zo6_3 v22_5 x96 u4 u16 k17 u37 u38 gt128 (ei _ (ei _ (ai rfl ?_)))) ?_
   ·simp only[simprocAttr,R0,h_91,eq_true c95,w97]
   rintro _ e _ ⟨rfl,u99,k100,rfl,h_101⟩;obtain⟨x129,gx129,ho⟩:=bS ho;have wx129:=chk_w gx129;cases ho;simp only[simprocAttr,R0,h_101,eq_true c95,wx129];refine ai rfl (ei _ (ei _ (ai rfl ?_)));simp only[simprocAttr,R0,h_101,eq_true c95,wx129]
  ·rw[if_neg c95]at ho
   cases ho;simp only[simprocAttr,R0,b354_5,h_91,eq_false c95];intro ht; subst ht;simp only[simprocAttr,RR,RB];refine ai rfl (ei _ (ei _ (ai rfl ?_)));simp only[simprocAttr,R0,h_91,eq_false c95]
theorem s354(a0:GComplex)(a1:List (List (List Int))){r:T2 GCouple Bool}(hF:F354 a0 a1=some r):ans A 354 [(eC a0),V.isl (a1.map Enc.enc)]=some (EncR.enc r):=by
 refine ans_of (f:=p354) rfl rfl rfl fun e hl he=>?_;have h0_0:e.at 0=(eC a0):=he 0 _ rfl;have h1_0:e.at 1=V.isl (a1.map Enc.enc):=he 1 _ rfl;have hl_0:e.length=234:=hl;clear he hl;show W A b354 e ⟨[],0⟩ _;unfold F354 at hF;obtain⟨x1,gx1,hF⟩:=bS hF;have w2:ans A 243 [(eC a0),(eC a0),V.isl (a1.map Enc.enc)]=some ((eC x1)):=s243 a0 a0 a1 gx1;obtain⟨zo3_1,gt14,hF⟩:=bS hF;simp only[simprocAttr,R0,b354,hl_0,h0_0,h1_0,w2];refine W.mono (l354_1 a0 a1 x1 gt14 (ei _ (ei _ (ai rfl ?_)))) ?_
 ·simp only[simprocAttr,R0,hl_0,h0_0,h1_0,w2]
 rintro _ e _ ⟨rfl,u4,k5,rfl,h_6⟩;obtain⟨zo4_2,gt28,hF⟩:=bS hF;simp only[simprocAttr,R0,h_6];refine W.mono (l354_2 a0 a1 x1 zo3_1 u4 gt28 (ei _ (ei _ (ai rfl ?_)))) ?_
 ·simp only[simprocAttr,R0,h_6]
 rintro _ e _ ⟨rfl,u16,k17,rfl,h_18⟩;obtain⟨x29,gx29,hF⟩:=bS hF;obtain⟨w30a,w30b⟩:=getI_w gx29;have w30c:=getI_lt gx29;have w30d:List.drop (Int.toNat (a0.Dims.length:Int)) (zo3_1.map Enc.enc)=(V.int .i64 x29)::List.drop ((Int.toNat (a0.Dims.length:Int))+1) (zo3_1.map Enc.enc):=drop_enc w30b;obtain⟨x31,gx31,hF⟩:=bS hF;have wx31:=chk_w gx31;obtain⟨x32,gx32,hF⟩:=bS hF;obtain⟨w33a,w33b⟩:=getI_w gx32;have w33c:=getI_lt gx32;have w33d:List.drop (Int.toNat x31) (zo4_2.map Enc.enc)=(V.int .i64 x32)::List.drop ((Int.toNat x31)+1) (zo4_2.map Enc.enc):=drop_enc w33b;by_cases c34:24 < x29
 ·rw[if_pos c34]at hF
  cases hF;simp only[simprocAttr,R0,h_18,w30a,w30b,w30c,w30d,wx31,w33a,w33b,w33c,w33d,eq_true c34];exact fin_ret (by simp only[simprocAttr,R0,fn_out,p354,Rs.ev,take_len_self,h_18,w30a,w30b,w30c,w30d,wx31,w33a,w33b,w33c,w33d,eq_true c34])
 ·rw[if_neg c34]at hF
  by_cases c35:24 < x32
  ·rw[if_pos c35]at hF
   cases hF;simp only[simprocAttr,R0,h_18,w30a,w30b,w30c,w30d,wx31,w33a,w33b,w33c,w33d,eq_false c34,eq_true c35];exact fin_ret (by simp only[simprocAttr,R0,fn_out,p354,Rs.ev,take_len_self,h_18,w30a,w30b,w30c,w30d,wx31,w33a,w33b,w33c,w33d,eq_false c34,eq_true c35])
  ·rw[if_neg c35]at hF
   obtain⟨⟨zo5_3,zo6_3,zq8_0_3,zq8_1_3,zq8_2_3⟩,gt90,hF⟩:=bS hF;dsimp only at hF;simp only[simprocAttr,R0,h_18,w30a,w30b,w30c,w30d,wx31,w33a,w33b,w33c,w33d,eq_false c34,eq_false c35];refine W.mono (l354_3 a0 a1 x1 zo3_1 zo4_2 u4 u16 k17 gt90 (ei _ (ei _ (ei _ (ai rfl ?_))))) ?_
   ·simp only[simprocAttr,R0,h_18,w30a,w30b,w30c,w30d,wx31,w33a,w33b,w33c,w33d,eq_false c34,eq_false c35]
   rintro _ e _ ⟨rfl,u37,u38,k39,rfl,h_40⟩;obtain⟨⟨zo7_5,zq8_0_5,zq8_1_5,zq8_2_5⟩,gt130,hF⟩:=bS hF;dsimp only at hF;simp only[simprocAttr,R0,h_40,eq_false c34,eq_false c35];refine W.mono (l354_5 a0 x1 zo3_1 zo4_2 zo5_3 zo6_3 u4 u16 k17 u37 u38 gt130 (ei _ (ei _ (ai rfl ?_)))) ?_
   ·simp only[simprocAttr,R0,h_40,eq_false c34,eq_false c35]
   rintro _ e _ ⟨rfl,u92,k93,rfl,h_94⟩;cases hF;simp only[simprocAttr,R0,h_94,eq_false c34,eq_false c35];exact fin_ret (by simp only[simprocAttr,R0,fn_out,p354,Rs.ev,take_len_self,h_94,eq_false c34,eq_false c35,frzs (α:=List Int) zo5_3,takes (α:=List Int) zo5_3,frzs (α:=List Int) zo6_3,takes (α:=List Int) zo6_3,frzs (α:=List Int) zo7_5,takes (α:=List Int) zo7_5])
def F345(a0:GComplex)(a1:List (List (List Int))):Option (T2 GCouple Int):=
 (F39 a0).bind fun x1=>
 if x1=true then
  (F353 a0 a0 a1).bind fun x3=>
  if x3.b=0 then
   if x3.a=true then
    (F354 a0 a1).bind fun x7=>
    if x7.b=true then
     some ⟨x7.a,0⟩
    else
     some ⟨⟨0,0,0,[],[],[]⟩,3⟩
   else
    some ⟨⟨0,0,0,[],[],[]⟩,5⟩
  else
   some ⟨⟨0,0,0,[],[],[]⟩,x3.b⟩
 else
  some ⟨⟨0,0,0,[],[],[]⟩,1⟩
theorem s345(a0:GComplex)(a1:List (List (List Int))){r:T2 GCouple Int}(hF:F345 a0 a1=some r):ans A 345 [(eC a0),V.isl (a1.map Enc.enc)]=some (EncR.enc r):=by
 refine ans_of (f:=p345) rfl rfl rfl fun e hl he=>?_;have h0_0:e.at 0=(eC a0):=he 0 _ rfl;have h1_0:e.at 1=V.isl (a1.map Enc.enc):=he 1 _ rfl;have hl_0:e.length=41:=hl;clear he hl;have h_0:=ai hl_0 (ai h0_0 h1_0);show W A b345 e ⟨[],0⟩ _;unfold F345 at hF;obtain⟨x1,gx1,hF⟩:=bS hF;have w2:ans A 39 [(eC a0)]=some (V.bool x1):=s39 a0 gx1;cases x1 with
 |true=>
  rw[if_pos rfl]at hF;obtain⟨x3,gx3,hF⟩:=bS hF;have w4:ans A 353 [(eC a0),(eC a0),V.isl (a1.map Enc.enc)]=some (V.tup [V.bool x3.a,V.int .i64 x3.b]):=s353 a0 a0 a1 gx3;by_cases c5:x3.b=0
  ·rw[if_pos c5]at hF
   by_cases c6:x3.a=true
   ·rw[if_pos c6]at hF
    obtain⟨x7,gx7,hF⟩:=bS hF;have w8:ans A 354 [(eC a0),V.isl (a1.map Enc.enc)]=some (V.tup [V.agg [V.int .i64 x7.a.Prime,V.int .i64 x7.a.D,V.int .i64 x7.a.E,V.isl (x7.a.I.map Enc.enc),V.isl (x7.a.J.map Enc.enc),V.isl (x7.a.K.map Enc.enc)],V.bool x7.b]):=s354 a0 a1 gx7;by_cases c9:x7.b=true
    ·rw[if_pos c9]at hF
     cases hF;simp only[simprocAttr,R0,b345,h_0,w2,w4,eq_true c5,c6,w8,c9];exact fin_ret (by simp only[simprocAttr,R0,fn_out,p345,Rs.ev,take_len_self,h_0,w2,w4,eq_true c5,c6,w8,c9])
    ·rw[if_neg c9]at hF
     cases hF;simp only[simprocAttr,R0,b345,h_0,w2,w4,eq_true c5,c6,w8,Bool.eq_false_iff.2 c9];exact fin_ret (by simp only[simprocAttr,R0,fn_out,p345,Rs.ev,take_len_self,h_0,w2,w4,eq_true c5,c6,w8,Bool.eq_false_iff.2 c9])
   ·rw[if_neg c6]at hF
    cases hF;simp only[simprocAttr,R0,b345,h_0,w2,w4,eq_true c5,Bool.eq_false_iff.2 c6];exact fin_ret (by simp only[simprocAttr,R0,fn_out,p345,Rs.ev,take_len_self,h_0,w2,w4,eq_true c5,Bool.eq_false_iff.2 c6])
  ·rw[if_neg c5]at hF
   cases hF;simp only[simprocAttr,R0,b345,h_0,w2,w4,eq_false c5];exact fin_ret (by simp only[simprocAttr,R0,fn_out,p345,Rs.ev,take_len_self,h_0,w2,w4,eq_false c5])
 |false=>
  rw[if_neg Bool.false_ne_true]at hF;cases hF;simp only[simprocAttr,R0,b345,h_0,w2];exact fin_ret (by simp only[simprocAttr,R0,fn_out,p345,Rs.ev,take_len_self,h_0,w2])
def F73(a0:List Int):Option Int:=
 some (a0.length:Int)
theorem s73(a0:List Int){r:Int}(hF:F73 a0=some r):ans A 73 [V.isl (a0.map Enc.enc)]=some (Enc.enc r):=by
 refine ans_of (f:=p73) rfl rfl rfl fun e hl he=>?_;have h0_0:e.at 0=V.isl (a0.map Enc.enc):=he 0 _ rfl;have hl_0:e.length=5:=hl;clear he hl;show W A b73 e ⟨[],0⟩ _;unfold F73 at hF;cases hF;simp only[simprocAttr,R0,b73,hl_0,h0_0];exact fin_ret (by simp only[simprocAttr,R0,fn_out,p73,Rs.ev,take_len_self,hl_0,h0_0])
def F96(a0:List Int):Option (List Int):=app 8 [] a0
theorem t96(a0:List Int){r:List Int}(hF:F96 a0=some r):tans A 96 [1] [V.isl (a0.map Enc.enc)]=some (Enc.enc r):=clone_tans rfl hF
def F56(a0:Int)(a1:Int)(a2:Int):Option Bool:=
 if a1≤a0 then
  some (decide (a0≤a2))
 else
  some false
theorem s56(a0:Int)(a1:Int)(a2:Int){r:Bool}(hF:F56 a0 a1 a2=some r):ans A 56 [V.int .i64 a0,V.int .i64 a1,V.int .i64 a2]=some (Enc.enc r):=by
 refine ans_of (f:=p56) rfl rfl rfl fun e hl he=>?_;have h0_0:e.at 0=V.int .i64 a0:=he 0 _ rfl;have h1_0:e.at 1=V.int .i64 a1:=he 1 _ rfl;have h2_0:e.at 2=V.int .i64 a2:=he 2 _ rfl;have hl_0:e.length=15:=hl;clear he hl;have h_0:=ai hl_0 (ai h0_0 (ai h1_0 h2_0));show W A b56 e ⟨[],0⟩ _;unfold F56 at hF;by_cases c1:a1≤a0
 ·rw[if_pos c1]at hF
  cases hF;simp only[simprocAttr,R0,b56,h_0,eq_true c1];exact fin_ret (by simp only[simprocAttr,R0,fn_out,p56,Rs.ev,take_len_self,h_0,eq_true c1])
 ·rw[if_neg c1]at hF
  cases hF;simp only[simprocAttr,R0,b56,h_0,eq_false c1];exact fin_ret (by simp only[simprocAttr,R0,fn_out,p56,Rs.ev,take_len_self,h_0,eq_false c1])
def F86(a0:GComplex):Option Int:=
 (chk ((a0.Dims.length:Int) - 1)).bind fun x3=>
 some x3
theorem s86(a0:GComplex){r:Int}(hF:F86 a0=some r):ans A 86 [(eC a0)]=some (Enc.enc r):=by
 refine ans_of (f:=p86) rfl rfl rfl fun e hl he=>?_;have h0_0:e.at 0=(eC a0):=he 0 _ rfl;have hl_0:e.length=7:=hl;clear he hl;show W A b86 e ⟨[],0⟩ _;unfold F86 at hF;have w2:ans A 73 [V.isl (a0.Dims.map Enc.enc)]=some (V.int .i64 (a0.Dims.length:Int)):=s73 a0.Dims rfl;obtain⟨x3,gx3,hF⟩:=bS hF;have wx3:=chk_w gx3;cases hF;simp only[simprocAttr,R0,b86,hl_0,h0_0,w2,wx3];exact fin_ret (by simp only[simprocAttr,R0,fn_out,p86,Rs.ev,take_len_self,hl_0,h0_0,w2,wx3])
def F102(a0:GComplex)(a1:Int):Option Int:=
 (F86 a0).bind fun x1=>
 (F56 a1 0 x1).bind fun x3=>
 if x3=true then
  (getI a0.Dims a1).bind fun x5=>
  some x5
 else
  some 0
theorem s102(a0:GComplex)(a1:Int){r:Int}(hF:F102 a0 a1=some r):ans A 102 [(eC a0),V.int .i64 a1]=some (Enc.enc r):=by
 refine ans_of (f:=p102) rfl rfl rfl fun e hl he=>?_;have h0_0:e.at 0=(eC a0):=he 0 _ rfl;have h1_0:e.at 1=V.int .i64 a1:=he 1 _ rfl;have hl_0:e.length=15:=hl;clear he hl;have h_0:=ai hl_0 (ai h0_0 h1_0);show W A b102 e ⟨[],0⟩ _;unfold F102 at hF;obtain⟨x1,gx1,hF⟩:=bS hF;have w2:ans A 86 [(eC a0)]=some (V.int .i64 x1):=s86 a0 gx1;obtain⟨x3,gx3,hF⟩:=bS hF;have w4:ans A 56 [V.int .i64 a1,V.int .i64 0,V.int .i64 x1]=some (V.bool x3):=s56 a1 0 x1 gx3;cases x3 with
 |true=>
  rw[if_pos rfl]at hF;obtain⟨x5,gx5,hF⟩:=bS hF;obtain⟨w6a,w6b⟩:=getI_w gx5;cases hF;simp only[simprocAttr,R0,b102,h_0,w2,w4,w6a,w6b];exact fin_ret (by simp only[simprocAttr,R0,fn_out,p102,Rs.ev,take_len_self,h_0,w2,w4,w6a,w6b])
 |false=>
  rw[if_neg Bool.false_ne_true]at hF;cases hF;simp only[simprocAttr,R0,b102,h_0,w2,w4];exact fin_ret (by simp only[simprocAttr,R0,fn_out,p102,Rs.ev,take_len_self,h_0,w2,w4])
def F132(a0:Int)(a1:Int):Option (List Int):=
 (mkL 8 a0 0).bind fun l1=>
 (getI l1 a1).bind fun x3=>
 (setI l1 a1 1).bind fun l5=>
 some l5
theorem t132(a0:Int)(a1:Int){r:List Int}(hF:F132 a0 a1=some r):tans A 132 [1] [V.int .i64 a0,V.int .i64 a1]=some (Enc.enc r):=by
 refine tans_of (f:=p132) rfl rfl rfl fun e hl he=>?_;have h0_0:e.at 0=V.int .i64 a0:=he 0 _ rfl;have h1_0:e.at 1=V.int .i64 a1:=he 1 _ rfl;have hl_0:e.length=12:=hl;clear he hl;show W A b132 e ⟨[],0⟩ _;unfold F132 at hF;obtain⟨l1,gl1,hF⟩:=bS hF;obtain⟨w2a,w2b,w2c,w2d,w2e⟩:=mkL_w gl1;replace w2e:(List.replicate (Int.toNat a0) [V.int .i64 0]).flatten=List.map Enc.enc l1:=w2e;obtain⟨x3,gx3,hF⟩:=bS hF;obtain⟨w4a,w4b⟩:=getI_w gx3;have w4c:=getI_lt gx3;replace w4c:a1 < (((Int.toNat a0):Nat):Int):=by first|exact w4c|(simp only[w2d]at w4c ⊢; exact w4c)
 have w4d:List.drop (Int.toNat a1) (l1.map Enc.enc)=(V.int .i64 x3)::List.drop ((Int.toNat a1)+1) (l1.map Enc.enc):=drop_enc w4b;obtain⟨l5,gl5,hF⟩:=bS hF;obtain⟨w6a,w6b,w6c,w6d,w6e⟩:=setI_w gl5;replace w6e:List.take (Int.toNat a1) (l1.map Enc.enc)++[V.int .i64 1]++List.drop (Int.toNat a1+1) (l1.map Enc.enc)=List.map Enc.enc l5:=w6e;have hE:=Option.some.inj hF; subst hE;simp only[simprocAttr, -Int.reduceNatCast',R0,b132,hl_0,h0_0,h1_0,w2a,w2b,w2c,w2e,w4a,w4b,w4c,w4d,w6a,w6b,w6c,w6e];exact tfin_ret (by simp only[simprocAttr, -Int.reduceNatCast',R0,fn_out,p132,Rs.ev,take_len_self,hl_0,h0_0,h1_0,w2a,w2b,w2c,w2e,w4a,w4b,w4c,w4d,w6a,w6b,w6c,w6e,frzs (α:=Int) l5,takes (α:=Int) l5,take_len (α:=Int) (l:=l5) (n:=(Int.toNat a0)) (by first|rfl|simp only[w2d,w6d]),w2d,w6d])
def F124_1_B(a0:Int)(v7_1:Int)(o0_1:(List (List Int))):Option (((List (List Int)))⊕((List (List Int)))):=
 (F132 a0 v7_1).bind fun x5=>
(app 24 o0_1 [x5]).bind fun l8=>
some (.inl l8)
def F124_1_D(a0:Int)(v7_1:Int)(o0_1:(List (List Int))):Option ((List (List Int))):=
 some o0_1
def F124(a0:Int):Option (List (List Int)):=
 (forR 0 a0 (F124_1_B a0) (F124_1_D a0) ([]:(List (List Int)))).bind fun zo0_1=>
 some zo0_1
theorem d124(a0:Int){r:List (List Int)}(hF:F124 a0=some r):∃v h',res A 124 [V.int .i64 a0] Heap.empty=some (v,h')∧∃K,Deep.rep h' v r K:=by
 refine res_dp (f:=p124) rfl rfl rfl fun e hl he=>?_;have h0_0:e.at 0=V.int .i64 a0:=he 0 _ rfl;have hl_0:e.length=18:=hl;clear he hl;show W A b124 e ⟨[],0⟩ _;unfold F124 at hF;obtain⟨zo0_1,gt9,hF⟩:=bS hF;have hE:=Option.some.inj hF; subst hE;simp only[simprocAttr, -Int.reduceNatCast',R1,b124,hl_0,h0_0];show W A (.block 0 (.loop true b124_1)) _ _ _;rw[W_block];refine W_forR gt9 _ rfl (fun i l e h=>∃u vs K,h.ents[0]? =some (u,some vs)∧reps h vs l K∧¬K 0∧e.length=18∧e.at 0=V.int .i64 a0∧e.at 3=V.sl 0 u 0 l.length 1∧e.at 6=V.int .i64 a0∧e.at 7=V.int .i64 i) ?_ ?_ ?_
 ·refine⟨0,[],fun _=> False,rfl,fun _ x=> x,fun x=> x,?_⟩
  simp only[simprocAttr, -Int.reduceNatCast',R1,hl_0,h0_0]
 ·rintro i l e ⟨E,c⟩ ⟨u,vs,K,g1,g2,g3,hl_1,h0_1,h3_1,h6_1,h7_1⟩ hlt hw o ho
  unfold F124_1_B at ho;obtain⟨x7,gx7,ho⟩:=bS ho;have w8:=t132 a0 i gx7;obtain⟨l10,gl10,ho⟩:=bS ho;obtain⟨q1,q2,rfl⟩:=app_w gl10;have hE:=Option.some.inj ho; subst hE;have hln:=g2.len;have hE0:0 < E.length:=(List.getElem?_eq_some_iff.1 g1).1;have w9:∀x y c',appendV 1 24 (.sl 0 u 0 l.length 1) 1 [V.sl E.length c 0 x7.length 1] ⟨E++[x]++[y],c'⟩=_:=fun x y c'=> appendV_deep (E:=E++[x]++[y]) (vs:=vs) (by rw[List.getElem?_append_left (by simp),List.getElem?_append_left hE0]; exact g1) hln (by simpa using q1) (by simpa using q2);simp only[simprocAttr, -Int.reduceNatCast',R1,b124_1,hl_1,h0_1,h3_1,h6_1,h7_1,eq_true hlt,hw,w8,callM_tans,thaw_one,get_last,w9];have r1:=deep_round (h:=⟨E,c⟩) (h1:=⟨E++[(c,some (x7.map Enc.enc))],c+1⟩) (h2:=⟨(E++[(c,some (x7.map Enc.enc))]++[(c+1,some [V.sl E.length c 0 x7.length 1])]).set 0 (c+1+1,some (vs++[V.sl E.length c 0 x7.length 1])),c+1+1+1⟩) g2
   (int_row (l:=x7) (K:=fun k=> k=E.length) (get_last _ _) fun k=> Iff.rfl) (fun k q=> by show E.length≤k; omega) (fun k q=> List.getElem?_append_left q) (fun k p q=> set_app_new (fun e=> by subst e; exact q.elim g3 (fun q=> by omega)) p) (by simp)
  refine ai rfl ⟨_,_,_,set_app_key (by simp),r1,fun q=> q.elim g3 (fun q=> by omega),?_⟩;simp only[simprocAttr, -Int.reduceNatCast',R1,hl_1,h0_1,h3_1,h6_1,h7_1,eq_true hlt,hw,w8,List.length_append]
 ·rintro i l e ⟨E,c⟩ ⟨u,vs,K,g1,g2,g3,hl_1,h0_1,h3_1,h6_1,h7_1⟩ hge t1 ho
  unfold F124_1_D at ho;have hE:=Option.some.inj ho; subst hE;simp only[simprocAttr, -Int.reduceNatCast',R1,b124_1,hl_1,h0_1,h3_1,h6_1,h7_1,eq_false hge];intro ht; subst ht;refine ai (fun _=> trivial) ⟨_,by simp only[simprocAttr, -Int.reduceNatCast',R1,fn_out,p124,Rs.ev,hl_1],fun k=> k=0∨K k,.inr ⟨0,u,vs,K,rfl,g1,g2,g3,fun k=> Iff.rfl⟩⟩
theorem s124(a0:Int){r:List (List Int)}(hF:F124 a0=some r):ans A 124 [V.int .i64 a0]=some (Enc.enc r):=ans_of_deep (by decide) (d124 a0 hF)
theorem x124(a0:Int){r:List (List Int)}(hF:F124 a0=some r):tans A 124 [1,1] [V.int .i64 a0]=some (Enc.enc r):=tans_of_deep (α:=List (List Int)) (by decide) (d124 a0 hF)
def F115_1_B(a0:List Int)(f1:Int→Option Bool)(v8_1:Int)(s:Unit):Option ((Unit)⊕((Unit)⊕Int)):=
 (getI a0 v8_1).bind fun x4=>
(f1 x4).bind fun x6=>
if x6=true then
 some (.inr (.inr v8_1))
else
 some (.inl ())
def F115_1_D(a0:List Int)(f1:Int→Option Bool)(v8_1:Int)(s:Unit):Option ((Unit)⊕Int):=
 some (.inl ())
def F115(a0:List Int)(f1:Int→Option Bool):Option Int:=
 (forR 0 (a0.length:Int) (F115_1_B a0 f1) (F115_1_D a0 f1) ()).bind fun t8=> match t8 with
  | .inl _=>
   some (-1)
  | .inr r9=> some r9
def I115_1(a0:List Int)(f1:Int→Option Bool)(vf1:V)(v8_1:Int)(s:Unit)(e:Env)(h:Heap):Prop:=
 ∃k2:Nat,h=⟨[],k2⟩∧e.length=19∧e.at 0=V.isl (a0.map Enc.enc)∧e.at 1=vf1∧e.at 7=V.int .i64 (a0.length:Int)∧e.at 8=V.int .i64 v8_1
def P115_1(a0:List Int)(f1:Int→Option Bool)(vf1:V)(t:(Unit)⊕Int)(x:Ex)(e:Env)(h:Heap):Prop:=
 match t with
 | .inl _=> x= .normal∧∃k2:Nat,h=⟨[],k2⟩∧e.length=19
 | .inr r=> x= .ret∧Fin p115 (Enc.enc r) .ret e h
theorem l115_1(a0:List Int)(f1:Int→Option Bool)(vf1:V)(hf1:Clo1 A vf1 f1){lo:Int}{s:Unit}{t:(Unit)⊕Int}(hF:forR lo (a0.length:Int) (F115_1_B a0 f1) (F115_1_D a0 f1) s=some t){e:Env}{h:Heap}(hI:I115_1 a0 f1 vf1 lo s e h):W A c115_1 e h (P115_1 a0 f1 vf1 t):=by
 obtain⟨g_f1,fs_f1,cs_f1,hv_f1,hc_f1⟩:=id hf1;show W A (.block 0 (.loop false b115_1)) e h _;rw[W_block];refine W_forR hF 0 (by obtain⟨_,rfl,_⟩:=hI; rfl) (I115_1 a0 f1 vf1) hI ?_ ?_
 ·rintro v8_1 _ e h ⟨k2,rfl,h_1⟩ hlt hw o ho
  unfold F115_1_B at ho;obtain⟨x4,gx4,ho⟩:=bS ho;obtain⟨w5a,w5b⟩:=getI_w gx4;obtain⟨x6,gx6,ho⟩:=bS ho;have w7a:∀h,mapO (frz h 16) (fs_f1++[V.int .i64 x4]++cs_f1)=some (fs_f1++[V.int .i64 x4]++cs_f1):=fun h=> hc_f1.zf x4 h;have w7b:List.all (fs_f1++[V.int .i64 x4]++cs_f1) (refless 16)=true:=hc_f1.zr x4;have w7c:ans A g_f1 (fs_f1++[V.int .i64 x4]++cs_f1)=some (V.bool x6):=hc_f1.ka x4 _ gx6;cases x6 with
  |true=>
   rw[if_pos rfl]at ho;cases ho;simp only[simprocAttr,R0,b115_1,h_1,eq_true hlt,hw,w5a,w5b,hv_f1,w7a,w7b,w7c];intro ht; subst ht;simp only[simprocAttr,RR,RB];exact ai rfl (fin_ret (by simp only[simprocAttr,R0,fn_out,p115,Rs.ev,take_len_self,h_1,eq_true hlt,hw,w5a,w5b,hv_f1,w7a,w7b,w7c]))
  |false=>
   rw[if_neg Bool.false_ne_true]at ho;cases ho;simp only[simprocAttr,R0,b115_1,h_1,eq_true hlt,hw,w5a,w5b,hv_f1,w7a,w7b,w7c];refine ai rfl (ei _ (ai rfl ?_));simp only[simprocAttr,R0,h_1,eq_true hlt,hw,w5a,w5b,hv_f1,w7a,w7b,w7c]
 ·rintro v8_1 _ e h ⟨k2,rfl,h_1⟩ hge t1 ho
  unfold F115_1_D at ho;cases ho;simp only[simprocAttr,R0,b115_1,h_1,eq_false hge];intro ht; subst ht;refine ai rfl (ei _ (ai rfl ?_));simp only[simprocAttr,R0,h_1,eq_false hge]
theorem s115(a0:List Int)(f1:Int→Option Bool){vf1:V}(hf1:Clo1 A vf1 f1){r:Int}(hF:F115 a0 f1=some r):ans A 115 [V.isl (a0.map Enc.enc),vf1]=some (Enc.enc r):=by
 refine ans_of (f:=p115) rfl rfl rfl fun e hl he=>?_;have h0_0:e.at 0=V.isl (a0.map Enc.enc):=he 0 _ rfl;have h1_0:e.at 1=vf1:=he 1 _ rfl;obtain⟨g_f1,fs_f1,cs_f1,hv_f1,hc_f1⟩:=id hf1;have hl_0:e.length=19:=hl;clear he hl;have h_0:=ai hl_0 (ai h0_0 h1_0);show W A b115 e ⟨[],0⟩ _;unfold F115 at hF;obtain⟨t8,gt8,hF⟩:=bS hF;rcases t8 with _|r9
 ·dsimp only at hF
  simp only[simprocAttr,R0,b115,h_0];refine W.mono (l115_1 a0 f1 vf1 hf1 gt8 (ei _ (ai rfl ?_))) ?_
  ·simp only[simprocAttr,R0,h_0]
  rintro _ e _ ⟨rfl,k2,rfl,hl_3⟩;cases hF;simp only[simprocAttr,R0,hl_3];exact fin_ret (by simp only[simprocAttr,R0,fn_out,p115,Rs.ev,take_len_self,hl_3])
 ·dsimp only at hF
  cases hF;simp only[simprocAttr,R0,b115,h_0];refine W.mono (l115_1 a0 f1 vf1 hf1 gt8 (ei _ (ai rfl ?_))) ?_
  ·simp only[simprocAttr,R0,h_0]
  rintro _ e h ⟨rfl,hq⟩;simp only[simprocAttr,RR,RB];exact hq
def F82(a0:List Int)(f1:Int→Option Bool):Option Bool:=
 (F115 a0 f1).bind fun x1=>
 some (decide (0≤x1))
theorem s82(a0:List Int)(f1:Int→Option Bool){vf1:V}(hf1:Clo1 A vf1 f1){r:Bool}(hF:F82 a0 f1=some r):ans A 82 [V.isl (a0.map Enc.enc),vf1]=some (Enc.enc r):=by
 refine ans_of (f:=p82) rfl rfl rfl fun e hl he=>?_;have h0_0:e.at 0=V.isl (a0.map Enc.enc):=he 0 _ rfl;have h1_0:e.at 1=vf1:=he 1 _ rfl;obtain⟨g_f1,fs_f1,cs_f1,hv_f1,hc_f1⟩:=id hf1;have hl_0:e.length=9:=hl;clear he hl;show W A b82 e ⟨[],0⟩ _;unfold F82 at hF;obtain⟨x1,gx1,hF⟩:=bS hF;have w2:ans A 115 [V.isl (a0.map Enc.enc),vf1]=some (V.int .i64 x1):=s115 a0 f1 hf1 gx1;cases hF;simp only[simprocAttr,R0,b82,hl_0,h0_0,h1_0,hf1.fz,hf1.rl,w2];exact fin_ret (by simp only[simprocAttr,R0,fn_out,p82,Rs.ev,take_len_self,hl_0,h0_0,h1_0,hf1.fz,hf1.rl,w2])
def F118(a0:Int):Option Bool:=
 some (!(decide (a0=0)))
theorem s118(a0:Int){r:Bool}(hF:F118 a0=some r):ans A 118 [V.int .i64 a0]=some (Enc.enc r):=by
 refine ans_of (f:=p118) rfl rfl rfl fun e hl he=>?_;have h0_0:e.at 0=V.int .i64 a0:=he 0 _ rfl;have hl_0:e.length=5:=hl;clear he hl;show W A b118 e ⟨[],0⟩ _;unfold F118 at hF;cases hF;simp only[simprocAttr,R0,b118,hl_0,h0_0];exact fin_ret (by simp only[simprocAttr,R0,fn_out,p118,Rs.ev,take_len_self,hl_0,h0_0])
def F92(a0:List Int):Option Bool:=
 (F82 a0 (fun x=> F118 x)).bind fun x1=>
 some (!x1)
theorem s92(a0:List Int){r:Bool}(hF:F92 a0=some r):ans A 92 [V.isl (a0.map Enc.enc)]=some (Enc.enc r):=by
 refine ans_of (f:=p92) rfl rfl rfl fun e hl he=>?_;have h0_0:e.at 0=V.isl (a0.map Enc.enc):=he 0 _ rfl;have hl_0:e.length=6:=hl;clear he hl;show W A b92 e ⟨[],0⟩ _;unfold F92 at hF;obtain⟨x1,gx1,hF⟩:=bS hF;have w2:ans A 82 [V.isl (a0.map Enc.enc),V.fn 118 [] []]=some (V.bool x1):=s82 a0 (fun x=> F118 x) (Clo1.of (by intro h f; simp only[RZ,mapO]) (by intro h f; simp only[RZ,mapO]) (by intro f; simp only[RZ,RB]) (by intro f; simp only[RZ,RB]) (fun x _ hr=> s118 x hr)) gx1;cases hF;simp only[simprocAttr,R0,b92,hl_0,h0_0,w2];exact fin_ret (by simp only[simprocAttr,R0,fn_out,p92,Rs.ev,take_len_self,hl_0,h0_0,w2])
def F128_1_B(a0:List (List Int))(f1:(List Int)→Option Bool)(v8_1:Int)(s:Unit):Option ((Unit)⊕((Unit)⊕Int)):=
 (getI a0 v8_1).bind fun x4=>
(f1 x4).bind fun x6=>
if x6=true then
 some (.inr (.inr v8_1))
else
 some (.inl ())
def F128_1_D(a0:List (List Int))(f1:(List Int)→Option Bool)(v8_1:Int)(s:Unit):Option ((Unit)⊕Int):=
 some (.inl ())
def F128(a0:List (List Int))(f1:(List Int)→Option Bool):Option Int:=
 (forR 0 (a0.length:Int) (F128_1_B a0 f1) (F128_1_D a0 f1) ()).bind fun t8=> match t8 with
  | .inl _=>
   some (-1)
  | .inr r9=> some r9
def I128_1(a0:List (List Int))(f1:(List Int)→Option Bool)(vf1:V)(v8_1:Int)(s:Unit)(e:Env)(h:Heap):Prop:=
 ∃k2:Nat,h=⟨[],k2⟩∧e.length=19∧e.at 0=V.isl (a0.map Enc.enc)∧e.at 1=vf1∧e.at 7=V.int .i64 (a0.length:Int)∧e.at 8=V.int .i64 v8_1
def P128_1(a0:List (List Int))(f1:(List Int)→Option Bool)(vf1:V)(t:(Unit)⊕Int)(x:Ex)(e:Env)(h:Heap):Prop:=
 match t with
 | .inl _=> x= .normal∧∃k2:Nat,h=⟨[],k2⟩∧e.length=19
 | .inr r=> x= .ret∧Fin p128 (Enc.enc r) .ret e h
theorem l128_1(a0:List (List Int))(f1:(List Int)→Option Bool)(vf1:V)(hf1:Clo1 A vf1 f1){lo:Int}{s:Unit}{t:(Unit)⊕Int}(hF:forR lo (a0.length:Int) (F128_1_B a0 f1) (F128_1_D a0 f1) s=some t){e:Env}{h:Heap}(hI:I128_1 a0 f1 vf1 lo s e h):W A c128_1 e h (P128_1 a0 f1 vf1 t):=by
 obtain⟨g_f1,fs_f1,cs_f1,hv_f1,hc_f1⟩:=id hf1;show W A (.block 0 (.loop false b128_1)) e h _;rw[W_block];refine W_forR hF 0 (by obtain⟨_,rfl,_⟩:=hI; rfl) (I128_1 a0 f1 vf1) hI ?_ ?_
 ·rintro v8_1 _ e h ⟨k2,rfl,h_1⟩ hlt hw o ho
  unfold F128_1_B at ho;obtain⟨x4,gx4,ho⟩:=bS ho;obtain⟨w5a,w5b⟩:=getI_w gx4;obtain⟨x6,gx6,ho⟩:=bS ho;have w7a:∀h,mapO (frz h 16) (fs_f1++[V.isl (x4.map Enc.enc)]++cs_f1)=some (fs_f1++[V.isl (x4.map Enc.enc)]++cs_f1):=fun h=> hc_f1.zf x4 h;have w7b:List.all (fs_f1++[V.isl (x4.map Enc.enc)]++cs_f1) (refless 16)=true:=hc_f1.zr x4;have w7c:ans A g_f1 (fs_f1++[V.isl (x4.map Enc.enc)]++cs_f1)=some (V.bool x6):=hc_f1.ka x4 _ gx6;cases x6 with
  |true=>
   rw[if_pos rfl]at ho;cases ho;simp only[simprocAttr,R0,b128_1,h_1,eq_true hlt,hw,w5a,w5b,hv_f1,w7a,w7b,w7c];intro ht; subst ht;simp only[simprocAttr,RR,RB];exact ai rfl (fin_ret (by simp only[simprocAttr,R0,fn_out,p128,Rs.ev,take_len_self,h_1,eq_true hlt,hw,w5a,w5b,hv_f1,w7a,w7b,w7c]))
  |false=>
   rw[if_neg Bool.false_ne_true]at ho;cases ho;simp only[simprocAttr,R0,b128_1,h_1,eq_true hlt,hw,w5a,w5b,hv_f1,w7a,w7b,w7c];refine ai rfl (ei _ (ai rfl ?_));simp only[simprocAttr,R0,h_1,eq_true hlt,hw,w5a,w5b,hv_f1,w7a,w7b,w7c]
 ·rintro v8_1 _ e h ⟨k2,rfl,h_1⟩ hge t1 ho
  unfold F128_1_D at ho;cases ho;simp only[simprocAttr,R0,b128_1,h_1,eq_false hge];intro ht; subst ht;refine ai rfl (ei _ (ai rfl ?_));simp only[simprocAttr,R0,h_1,eq_false hge]
theorem s128(a0:List (List Int))(f1:(List Int)→Option Bool){vf1:V}(hf1:Clo1 A vf1 f1){r:Int}(hF:F128 a0 f1=some r):ans A 128 [V.isl (a0.map Enc.enc),vf1]=some (Enc.enc r):=by
 refine ans_of (f:=p128) rfl rfl rfl fun e hl he=>?_;have h0_0:e.at 0=V.isl (a0.map Enc.enc):=he 0 _ rfl;have h1_0:e.at 1=vf1:=he 1 _ rfl;obtain⟨g_f1,fs_f1,cs_f1,hv_f1,hc_f1⟩:=id hf1;have hl_0:e.length=19:=hl;clear he hl;have h_0:=ai hl_0 (ai h0_0 h1_0);show W A b128 e ⟨[],0⟩ _;unfold F128 at hF;obtain⟨t8,gt8,hF⟩:=bS hF;rcases t8 with _|r9
 ·dsimp only at hF
  simp only[simprocAttr,R0,b128,h_0];refine W.mono (l128_1 a0 f1 vf1 hf1 gt8 (ei _ (ai rfl ?_))) ?_
  ·simp only[simprocAttr,R0,h_0]
  rintro _ e _ ⟨rfl,k2,rfl,hl_3⟩;cases hF;simp only[simprocAttr,R0,hl_3];exact fin_ret (by simp only[simprocAttr,R0,fn_out,p128,Rs.ev,take_len_self,hl_3])
 ·dsimp only at hF
  cases hF;simp only[simprocAttr,R0,b128,h_0];refine W.mono (l128_1 a0 f1 vf1 hf1 gt8 (ei _ (ai rfl ?_))) ?_
  ·simp only[simprocAttr,R0,h_0]
  rintro _ e h ⟨rfl,hq⟩;simp only[simprocAttr,RR,RB];exact hq
def F137(a0:List Int)(d0:Int):Option Bool:=
 (getI a0 d0).bind fun x1=>
 some (!(decide (x1=0)))
theorem s137(a0:List Int)(d0:Int){r:Bool}(hF:F137 a0 d0=some r):ans A 137 [V.isl (a0.map Enc.enc),V.iptr [V.int .i64 d0]]=some (Enc.enc r):=by
 refine ans_of (f:=p137) rfl rfl rfl fun e hl he=>?_;have h0_0:e.at 0=V.isl (a0.map Enc.enc):=he 0 _ rfl;have h1_0:e.at 1=V.iptr [V.int .i64 d0]:=he 1 _ rfl;have hl_0:e.length=9:=hl;clear he hl;show W A b137 e ⟨[],0⟩ _;unfold F137 at hF;obtain⟨x1,gx1,hF⟩:=bS hF;obtain⟨w2a,w2b⟩:=getI_w gx1;cases hF;simp only[simprocAttr,R0,b137,hl_0,h0_0,h1_0,w2a,w2b];exact fin_ret (by simp only[simprocAttr,R0,fn_out,p137,Rs.ev,take_len_self,hl_0,h0_0,h1_0,w2a,w2b])
def F138_1_S(a0:Int)(a1:Int)(v5_1:Int):Option ((Int)⊕(Int)):=
 (chk (v5_1*a1)).bind fun x4=>
(remI x4 a0).bind fun x5=>
if x5=1 then
 some (.inr v5_1)
else
 (chk (v5_1+1)).bind fun x8=>
 some (.inl x8)
def F138(a0:Int)(a1:Int):Option Int:=
 (loopW (F138_1_S a0 a1) 1).bind fun zv5_1=>
 some zv5_1
def I138_1(a0:Int)(a1:Int)(v5_1:Int)(e:Env)(h:Heap):Prop:=
 ∃k2:Nat,h=⟨[],k2⟩∧e.length=15∧e.at 0=V.int .i64 a0∧e.at 1=V.int .i64 a1∧e.at 5=V.int .i64 v5_1
def P138_1(a0:Int)(a1:Int)(zv5_1:Int)(x:Ex)(e:Env)(h:Heap):Prop:=
 x= .normal∧∃k2:Nat,h=⟨[],k2⟩∧e.length=15∧e.at 5=V.int .i64 zv5_1
theorem l138_1(a0:Int)(a1:Int){s:Int}{t:Int}(hF:loopW (F138_1_S a0 a1) s=some t){e:Env}{h:Heap}(hI:I138_1 a0 a1 s e h):W A c138_1 e h (P138_1 a0 a1 t):=by
 show W A (.block 0 (.loop false b138_1)) e h _;rw[W_block];refine W_loop hF 0 (by obtain⟨_,rfl,_⟩:=hI; rfl) (I138_1 a0 a1) hI ?_
 ·rintro v5_1 e h ⟨k2,rfl,h_1⟩ o ho
  unfold F138_1_S at ho;obtain⟨x4,gx4,ho⟩:=bS ho;have wx4:=chk_w gx4;obtain⟨x5,gx5,ho⟩:=bS ho;obtain⟨w6a,w6b⟩:=rem_w gx5;by_cases c7:x5=1
  ·rw[if_pos c7]at ho
   cases ho;simp only[simprocAttr,R0,b138_1,h_1,wx4,eq_false w6a,w6b,eq_true c7];intro ht; subst ht;simp only[simprocAttr,RR,RB];refine ai rfl (ei _ (ai rfl ?_));simp only[simprocAttr,R0,h_1,wx4,eq_false w6a,w6b,eq_true c7]
  ·rw[if_neg c7]at ho
   obtain⟨x8,gx8,ho⟩:=bS ho;have wx8:=chk_w gx8;cases ho;simp only[simprocAttr,R0,b138_1,h_1,wx4,eq_false w6a,w6b,eq_false c7,wx8];refine ai rfl (ei _ (ai rfl ?_));simp only[simprocAttr,R0,h_1,wx4,eq_false w6a,w6b,eq_false c7,wx8]
theorem s138(a0:Int)(a1:Int){r:Int}(hF:F138 a0 a1=some r):ans A 138 [V.int .i64 a0,V.int .i64 a1]=some (Enc.enc r):=by
 refine ans_of (f:=p138) rfl rfl rfl fun e hl he=>?_;have h0_0:e.at 0=V.int .i64 a0:=he 0 _ rfl;have h1_0:e.at 1=V.int .i64 a1:=he 1 _ rfl;have hl_0:e.length=15:=hl;clear he hl;show W A b138 e ⟨[],0⟩ _;unfold F138 at hF;obtain⟨zv5_1,gt9,hF⟩:=bS hF;simp only[simprocAttr,R0,b138,hl_0,h0_0,h1_0];refine W.mono (l138_1 a0 a1 gt9 (ei _ (ai rfl ?_))) ?_
 ·simp only[simprocAttr,R0,hl_0,h0_0,h1_0]
 rintro _ e _ ⟨rfl,k2,rfl,h_3⟩;cases hF;simp only[simprocAttr,R0,h_3];exact fin_ret (by simp only[simprocAttr,R0,fn_out,p138,Rs.ev,take_len_self,h_3])
def F139_1_B(other:List Int)(p by_:Int)(i:Int)(row:List Int):Option (List Int⊕List Int):=
 (getI other i).bind fun y=>(getI row i).bind fun r=>(chk (p - by_)).bind fun q=>(chk (q*y)).bind fun m=>(chk (r+m)).bind fun s=>(remI s p).bind fun z=>(setI row i z).bind fun row'=> some (.inl row')
def F139_1_D(i:Int)(row:List Int):Option (List Int):=some row
def F139(row other:List Int)(p by_:Int):Option (List Int):=forR 0 (other.length:Int) (F139_1_B other p by_) F139_1_D row
theorem d139{row other row':List Int}{p by_:Int}(hF:F139 row other p by_=some row')(E:List (Nat×Option (List V)))(c:Nat){key uid key2 uid2:Nat}(g1:E[key]? =some (uid,some (row.map Enc.enc)))(g2:E[key2]? =some (uid2,some (other.map Enc.enc)))(hne:key2≠key):
  res A 139 [V.sl key uid 0 row.length 1,V.sl key2 uid2 0 other.length 1,V.int .i64 p,V.int .i64 by_] ⟨E,c⟩=some (V.undef,⟨E.set key (uid,some (List.map Enc.enc row')),c⟩)∧row'.length=row.length:=by
 have hk:key < E.length:=(List.getElem?_eq_some_iff.1 g1).1
 suffices∃h',res A 139 [V.sl key uid 0 row.length 1,V.sl key2 uid2 0 other.length 1,V.int .i64 p,V.int .i64 by_] ⟨E,c⟩=some (V.undef,h')∧h'=⟨E.set key (uid,some (List.map Enc.enc row')),c⟩∧row'.length=row.length by
  obtain⟨h',q1,rfl,q2⟩:=this;exact⟨q1,q2⟩
 refine res_ex (f:=p139) rfl rfl rfl fun e hl he=>?_;have h0_0:e.at 0=V.sl key uid 0 row.length 1:=he 0 _ rfl;have h1_0:e.at 1=V.sl key2 uid2 0 other.length 1:=he 1 _ rfl;have h2_0:e.at 2=V.int .i64 p:=he 2 _ rfl;have h3_0:e.at 3=V.int .i64 by_:=he 3 _ rfl;have hl_0:e.length=33:=hl;clear he hl;show W A b139 e ⟨E,c⟩ _;unfold F139 at hF;simp only[simprocAttr,R1,b139,hl_0,h0_0,h1_0,h2_0,h3_0];show W A (.block 0 (.loop true b139_1)) _ _ _;rw[W_block];refine W_forR hF _ rfl (fun i s e h=> s.length=row.length∧h=⟨E.set key (uid,some (s.map Enc.enc)),c⟩∧e.length=33∧e.at 0=V.sl key uid 0 row.length 1∧e.at 2=V.int .i64 p∧e.at 3=V.int .i64 by_∧e.at 10=V.sl key2 uid2 0 other.length 1∧e.at 11=V.int .i64 (other.length:Int)∧e.at 12=V.int .i64 i) ?_ ?_ ?_
 ·refine⟨rfl,?_,?_⟩
  ·rw[set_self g1]
  ·simp only[simprocAttr,R1,hl_0,h0_0,h1_0,h2_0,h3_0]
 ·clear hl_0 h0_0 h1_0 h2_0 h3_0
  rintro i s e h ⟨hs,rfl,h_1⟩ hlt hw s' ho;unfold F139_1_B at ho;obtain⟨y,gy,ho⟩:=bS ho;obtain⟨ya,yb⟩:=getI_w gy;have yc:=getI_lt gy;obtain⟨r,gr,ho⟩:=bS ho;obtain⟨ra,rb⟩:=getI_w gr;have rc:=getI_lt gr;obtain⟨q,gq,ho⟩:=bS ho;have wq:=chk_w gq;obtain⟨m,gm,ho⟩:=bS ho;have wm:=chk_w gm;obtain⟨t,gt,ho⟩:=bS ho;have wt:=chk_w gt;obtain⟨z,gz,ho⟩:=bS ho;obtain⟨wz0,wz⟩:=rem_w gz;obtain⟨row2,gs,ho⟩:=bS ho;obtain⟨s1,s2,s3,s4,s5⟩:=setI_w gs;cases ho;have oy:ofCells none (List.drop (Int.toNat i) (other.map Enc.enc))=some (V.int .i64 y):=ofCells_drop (by rw[List.getElem?_map,yb]; rfl);have orr:ofCells none (List.drop (Int.toNat i) (s.map Enc.enc))=some (V.int .i64 r):=ofCells_drop (by rw[List.getElem?_map,rb]; rfl);have n1:∀x,(E.set key x)[key]? =some x:=fun x=> set_app_key hk;have n2:∀x,(E.set key x)[key2]? =some (uid2,some (other.map Enc.enc)):=fun x=>(set_ne hne).trans g2;have s5':List.take (Int.toNat i) (s.map Enc.enc)++[V.int .i64 z]++List.drop (Int.toNat i+1) (s.map Enc.enc)=List.map Enc.enc row2:=s5;have rc':i < (row.length:Int):=by omega
  simp only[simprocAttr,R1,b139_1,h_1,eq_true hlt,hw,ya,eq_true yc,oy,ra,eq_true rc',orr,n1,n2,wq,wm,wt,wz0,wz,s3,s5',List.set_set];refine ai rfl ⟨by omega,rfl,?_⟩;simp only[simprocAttr,R1,h_1,hw]
 ·clear hl_0 h0_0 h1_0 h2_0 h3_0
  rintro i s e h ⟨hs,rfl,h_1⟩ hge t1 ho;unfold F139_1_D at ho;cases ho;simp only[simprocAttr,R1,b139_1,h_1,eq_false hge];intro ht; subst ht;refine ai (fun _=> trivial) ⟨?_,rfl,hs⟩;simp only[simprocAttr,R1,fn_out,p139,mapO];rfl
theorem i139{row other row':List Int}{p by_:Int}(hF:F139 row other p by_=some row')(E:List (Nat×Option (List V)))(c:Nat){key uid:Nat}(g1:E[key]? =some (uid,some (row.map Enc.enc))):
  res A 139 [V.sl key uid 0 row.length 1,V.isl (other.map Enc.enc),V.int .i64 p,V.int .i64 by_] ⟨E,c⟩=some (V.undef,⟨E.set key (uid,some (List.map Enc.enc row')),c⟩)∧row'.length=row.length:=by
 have hk:key < E.length:=(List.getElem?_eq_some_iff.1 g1).1
 suffices∃h',res A 139 [V.sl key uid 0 row.length 1,V.isl (other.map Enc.enc),V.int .i64 p,V.int .i64 by_] ⟨E,c⟩=some (V.undef,h')∧h'=⟨E.set key (uid,some (List.map Enc.enc row')),c⟩∧row'.length=row.length by
  obtain⟨h',q1,rfl,q2⟩:=this;exact⟨q1,q2⟩
 refine res_ex (f:=p139) rfl rfl rfl fun e hl he=>?_;have h0_0:e.at 0=V.sl key uid 0 row.length 1:=he 0 _ rfl;have h1_0:e.at 1=V.isl (other.map Enc.enc):=he 1 _ rfl;have h2_0:e.at 2=V.int .i64 p:=he 2 _ rfl;have h3_0:e.at 3=V.int .i64 by_:=he 3 _ rfl;have hl_0:e.length=33:=hl;clear he hl;show W A b139 e ⟨E,c⟩ _;unfold F139 at hF;simp only[simprocAttr,R1,b139,hl_0,h0_0,h1_0,h2_0,h3_0];show W A (.block 0 (.loop true b139_1)) _ _ _;rw[W_block];refine W_forR hF _ rfl (fun i s e h=> s.length=row.length∧h=⟨E.set key (uid,some (s.map Enc.enc)),c⟩∧e.length=33∧e.at 0=V.sl key uid 0 row.length 1∧e.at 2=V.int .i64 p∧e.at 3=V.int .i64 by_∧e.at 10=V.isl (other.map Enc.enc)∧e.at 11=V.int .i64 (other.length:Int)∧e.at 12=V.int .i64 i) ?_ ?_ ?_
 ·refine⟨rfl,?_,?_⟩
  ·rw[set_self g1]
  ·simp only[simprocAttr,R1,hl_0,h0_0,h1_0,h2_0,h3_0]
 ·clear hl_0 h0_0 h1_0 h2_0 h3_0
  rintro i s e h ⟨hs,rfl,h_1⟩ hlt hw s' ho;unfold F139_1_B at ho;obtain⟨y,gy,ho⟩:=bS ho;obtain⟨ya,yb⟩:=getI_w gy;have yc:=getI_lt gy;obtain⟨r,gr,ho⟩:=bS ho;obtain⟨ra,rb⟩:=getI_w gr;have rc:=getI_lt gr;obtain⟨q,gq,ho⟩:=bS ho;have wq:=chk_w gq;obtain⟨m,gm,ho⟩:=bS ho;have wm:=chk_w gm;obtain⟨t,gt,ho⟩:=bS ho;have wt:=chk_w gt;obtain⟨z,gz,ho⟩:=bS ho;obtain⟨wz0,wz⟩:=rem_w gz;obtain⟨row2,gs,ho⟩:=bS ho;obtain⟨s1,s2,s3,s4,s5⟩:=setI_w gs;cases ho;have orr:ofCells none (List.drop (Int.toNat i) (s.map Enc.enc))=some (V.int .i64 r):=ofCells_drop (by rw[List.getElem?_map,rb]; rfl);have n1:∀x,(E.set key x)[key]? =some x:=fun x=> set_app_key hk;have s5':List.take (Int.toNat i) (s.map Enc.enc)++[V.int .i64 z]++List.drop (Int.toNat i+1) (s.map Enc.enc)=List.map Enc.enc row2:=s5;have rc':i < (row.length:Int):=by omega
  simp only[simprocAttr,R1,b139_1,h_1,eq_true hlt,hw,ya,yb,ra,eq_true rc',orr,n1,wq,wm,wt,wz0,wz,s3,s5',List.set_set];refine ai rfl ⟨by omega,rfl,?_⟩;simp only[simprocAttr,R1,h_1,hw]
 ·clear hl_0 h0_0 h1_0 h2_0 h3_0
  rintro i s e h ⟨hs,rfl,h_1⟩ hge t1 ho;unfold F139_1_D at ho;cases ho;simp only[simprocAttr,R1,b139_1,h_1,eq_false hge];intro ht; subst ht;refine ai (fun _=> trivial) ⟨?_,rfl,hs⟩;simp only[simprocAttr,R1,fn_out,p139,mapO];rfl
def F133_1_B(rows:List (List Int))(i:Int)(s:List (List Int)):Option (List (List Int)⊕List (List Int)):=(getI rows i).bind fun r=>(F96 r).bind fun d=>(app 24 s [d]).bind fun l=> some (.inl l)
def F133_1_D(i:Int)(s:List (List Int)):Option (List (List Int)):=some s
def F133_3_B(p b:Int)(k:Int)(row:List Int):Option (List Int⊕List Int):=(getI row k).bind fun x=>(chk (x*b)).bind fun m=>(remI m p).bind fun z=>(setI row k z).bind fun r=> some (.inl r)
def F133_3_D(k:Int)(row:List Int):Option (List Int):=some row
def F133_4_B(p c done:Int)(i:Int)(l:List (List Int)):Option (List (List Int)⊕List (List Int)):=
 if i=done then some (.inl l)else(getI l i).bind fun r=>(getI l done).bind fun o=>(getI r c).bind fun x=>(F139 r o p x).bind fun r'=>(setI l i r').bind fun l'=> some (.inl l')
def F133_4_D(i:Int)(l:List (List Int)):Option (List (List Int)):=some l
def F133_2_B(p:Int)(c:Int)(s:List (List Int)×Int):Option ((List (List Int)×Int)⊕(List (List Int)×Int)):=
 if 0≤s.2∧s.2≤s.1.length then
  (F128 (s.1.drop s.2.toNat) (fun r=> F137 r c)).bind fun at_=>
  if at_ < 0 then some (.inl s)else
  (chk (s.2+at_)).bind fun j=>(getI s.1 j).bind fun a=>(getI s.1 s.2).bind fun b=>(setI s.1 s.2 a).bind fun l1=>(setI l1 j b).bind fun l2=>
  (getI l2 s.2).bind fun row=>(getI row c).bind fun x=>(F138 p x).bind fun by_=>
  (forR 0 (row.length:Int) (F133_3_B p by_) F133_3_D row).bind fun row'=>(setI l2 s.2 row').bind fun l3=>
  (forR 0 (l3.length:Int) (F133_4_B p c s.2) F133_4_D l3).bind fun l4=>(chk (s.2+1)).bind fun d=> if d=(l4.length:Int)then some (.inr (l4,d))else some (.inl (l4,d))
 else none
def F133_2_D(c:Int)(s:List (List Int)×Int):Option (List (List Int)×Int):=some s
def F133(p:Int)(rows:List (List Int)):Option (List (List Int)):=
 (forR 0 (rows.length:Int) (F133_1_B rows) F133_1_D []).bind fun l=> if(l.length:Int)=0 then some l else(getI l 0).bind fun r0=>
 (forR 0 (r0.length:Int) (F133_2_B p) F133_2_D (l,0)).bind fun t=> if 0≤t.2∧t.2≤t.1.length then some (t.1.take t.2.toNat)else none
theorem d133(p:Int)(rows:List (List Int)){r:List (List Int)}(hF:F133 p rows=some r):∃v h',res A 133 [V.int .i64 p,V.isl (rows.map Enc.enc)] Heap.empty=some (v,h')∧
  ∃u vs l,v=V.sl 0 u 0 r.length 1∧h'.ents[0]? =some (u,some vs)∧MatAt h'.ents vs l (fun k=> 1≤k)∧r=l.take r.length:=by
 refine res_dp (f:=p133) rfl rfl rfl fun e hl he=>?_;have h0_0:e.at 0=V.int .i64 p:=he 0 _ rfl;have h1_0:e.at 1=V.isl (rows.map Enc.enc):=he 1 _ rfl;have hl_0:e.length=134:=hl;clear he hl;show W A b133 e ⟨[],0⟩ _;unfold F133 at hF;obtain⟨l0,gl0,hF⟩:=bS hF;simp only[simprocAttr, -Int.reduceNatCast',R1,b133,hl_0,h0_0,h1_0];show W A (.block 0 (.loop true b133_1)) _ _ _;rw[W_block];refine W_forR gl0 _ rfl (fun i s e h=>∃u vs,h.ents[0]? =some (u,some vs)∧MatAt h.ents vs s (fun k=> 1≤k)∧e.length=134∧e.at 0=V.int .i64 p∧e.at 5=V.sl 0 u 0 s.length 1∧e.at 15=V.isl (rows.map Enc.enc)∧e.at 16=V.int .i64 (rows.length:Int)∧e.at 17=V.int .i64 i) ?_ ?_ ?_
 ·refine⟨0,[],rfl,.nil,?_⟩
  simp only[simprocAttr, -Int.reduceNatCast',R1,hl_0,h0_0,h1_0]
 ·clear hl_0 h0_0 h1_0
  rintro i s e ⟨E,c⟩ ⟨u,vs,g1,g2,hl_1,h0_1,h5_1,h15_1,h16_1,h17_1⟩ hlt hw s' ho;unfold F133_1_B at ho;simp only at g1 g2;obtain⟨x,gx,ho⟩:=bS ho;obtain⟨xa,xb⟩:=getI_w gx;obtain⟨d,gd,ho⟩:=bS ho;have wd:=t96 x gd;obtain⟨l,gl,ho⟩:=bS ho;obtain⟨q1,q2,rfl⟩:=app_w gl;have hE:=Option.some.inj ho; subst hE;have hE0:0 < E.length:=(List.getElem?_eq_some_iff.1 g1).1;have w9:∀x y c',appendV 1 24 (.sl 0 u 0 s.length 1) 1 [V.sl E.length c 0 d.length 1] ⟨E++[x]++[y],c'⟩=_:=fun x y c'=> appendV_deep (E:=E++[x]++[y]) (vs:=vs) (by rw[List.append_assoc,List.getElem?_append_left hE0]; exact g1) g2.len (by simpa using q1) (by simpa using q2);simp only[simprocAttr, -Int.reduceNatCast',R1,b133_1,hl_1,h0_1,h5_1,h15_1,h16_1,h17_1,eq_true hlt,hw,xa,xb,wd,callM_tans,thaw_one,le1,get_last,ge2a,ge2b,w9];refine ai rfl ⟨_,_,set_app_key (by simp),?_,?_⟩
  ·refine(MatAt.snoc (k:=E.length) (u:=c) (r:=d) (E:=((E++[(c,some (d.map Enc.enc))]++[(c+1,some [V.sl E.length c 0 d.length 1])]).set 0 (c+1+1,some (vs++[V.sl E.length c 0 d.length 1])))) (g2.frame fun k hk hb=>?_) ?_ (by omega) fun i k' u' n hv e=>?_)
   ·rw[set_ne (by omega),List.append_assoc,List.getElem?_append_left hk]
   ·rw[set_ne (by omega)]; exact ge2a ..
   ·subst e
    obtain⟨r,hr⟩:∃r,s[i]? =some r:=⟨s[i]'(by have:=(List.getElem?_eq_some_iff.1 hv).1; have:=g2.len; omega),by simp⟩;obtain⟨k2,u2,e2,g,_⟩:=g2.row i _ r hv hr;cases e2;have:=(List.getElem?_eq_some_iff.1 g).1;omega
  ·simp only[simprocAttr, -Int.reduceNatCast',R1,hl_1,h0_1,h5_1,h15_1,h16_1,h17_1,hw,List.length_append]
 ·clear hl_0 h0_0 h1_0
  rintro i s e ⟨E,c⟩ ⟨u,vs,g1,g2,hl_1,h0_1,h5_1,h15_1,h16_1,h17_1⟩ hge t1 ho;unfold F133_1_D at ho;have hE:=Option.some.inj ho; subst hE;simp only at g1 g2;simp only[simprocAttr, -Int.reduceNatCast',R1,b133_1,hl_1,h0_1,h5_1,h15_1,h16_1,h17_1,eq_false hge];intro ht; subst ht;by_cases hz:(s.length:Int)=0
  ·rw[if_pos hz]at hF ⊢
   have hE:=Option.some.inj hF; subst hE;refine ai (fun _=> trivial) ⟨_,?_,u,vs,s,rfl,g1,g2,by rw[List.take_length]⟩;simp only[simprocAttr, -Int.reduceNatCast',R1,fn_out,p133,Rs.ev,hl_1,h5_1]
  ·rw[if_neg hz]at hF ⊢
   obtain⟨r0,gr0,hF⟩:=bS hF;obtain⟨ra,rb⟩:=getI_w gr0;have rc:=getI_lt gr0;obtain⟨t,gt,hF⟩:=bS hF;obtain⟨k0,u0,v1,v2,v3⟩:=g2.get rb;have o1:=ofCells_drop v1;simp only[Int.toNat_zero,List.drop_zero]at o1;simp only[simprocAttr, -Int.reduceNatCast',R1,hl_1,h0_1,h5_1,h15_1,h16_1,h17_1,eq_true rc,g1,o1,Int.toNat_zero,Int.le_refl];show W A (.block 2 (.loop true b133_2)) _ _ _;rw[W_block];refine W_forR gt _ rfl (fun i s e h=>∃u vs,h.ents[0]? =some (u,some vs)∧MatAt h.ents vs s.1 (fun k=> 1≤k)∧e.length=134∧e.at 0=V.int .i64 p∧e.at 5=V.sl 0 u 0 s.1.length 1∧e.at 8=V.int .i64 s.2∧e.at 34=V.int .i64 (r0.length:Int)∧e.at 35=V.int .i64 i) ?_ ?_ ?_
   ·refine⟨u,vs,g1,g2,?_⟩
    simp only[simprocAttr, -Int.reduceNatCast',R1,hl_1,h0_1,h5_1,h15_1,h16_1,h17_1]
   ·clear hl_1 h0_1 h5_1 h15_1 h16_1 h17_1 g1 g2 k0 u0 v1 v2 v3 o1
    rintro cc ⟨l,done⟩ e ⟨E,c⟩ ⟨u,vs,g1,g2,hl_1,h0_1,h5_1,h8_1,h34_1,h35_1⟩ hlt hw s' ho;unfold F133_2_B at ho;simp only at g1 g2 h5_1 h8_1 ho;have hE0:0 < E.length:=(List.getElem?_eq_some_iff.1 g1).1;split at ho
    case isFalse=> cases ho
    rename_i hdn;obtain⟨hd0,hd1⟩:=hdn;have hdn:done.toNat≤l.length:=by omega
    obtain⟨at_,gat,ho⟩:=bS ho;have wat:ans A 128 [V.isl (List.map Enc.enc (l.drop done.toNat)),V.fn 137 [] [V.iptr [V.int .i64 cc]]]=some (V.int .i64 at_):=s128 (l.drop done.toNat) (fun r=> F137 r cc)
     (Clo1.of (by intro h f; simp only[RZ,mapO]) (by intro h f; simp only[RZ,mapO]) (by intro f; simp only[RZ,RB]) (by intro f; simp only[RZ,RB]) (fun x _ hr=> s137 x cc hr)) gat
    have g1':∀x,(E++[x])[0]? =some (u,some vs):=fun x=>(List.getElem?_append_left hE0).trans g1;have g2':∀x,MatAt (E++[x]) vs l (fun k=> 1≤k∧k < E.length):=fun x=>(g2.mono (fun k hk h=> ai h hk)).frame fun k hk _=> List.getElem?_append_left hk;have wfz:∀x c,frz ⟨E++[x],c⟩ 16 (V.sl 0 u done.toNat (l.length - done.toNat) 1)=some (V.isl (List.map Enc.enc (l.drop done.toNat))):=fun x c=> by
     have:=(g2' x).fz c (g1' x) (off:=done.toNat) (n:=l.length - done.toNat) (by omega)
     rwa[List.take_of_length_le (by simp)]at this
    have wsl:=slice_lo (key:=0) (uid:=u) (n:=l.length) hd0 (by omega);by_cases hat:at_ < 0
    ·rw[if_pos hat]at ho
     have hE:=Option.some.inj ho; subst hE;simp only[simprocAttr, -Int.reduceNatCast',R1,b133_2,hl_1,h0_1,h5_1,h8_1,h34_1,h35_1,eq_true hlt,hw,Option.map_some,Option.map_none,wsl,wfz,wat,get_last,set_last,eq_true hat];refine ai rfl ⟨u,vs,g1' _,(g2' _).mono fun k _ h=> h.1,?_⟩;simp only[simprocAttr, -Int.reduceNatCast',R1,hl_1,h0_1,h5_1,h8_1,h34_1,h35_1,hw]
    ·rw[if_neg hat]at ho
     obtain⟨j,gj,ho⟩:=bS ho;have wj:=chk_w gj;obtain⟨a,ga,ho⟩:=bS ho;obtain⟨aa,ab⟩:=getI_w ga;have ac:=getI_lt ga;obtain⟨b,gb,ho⟩:=bS ho;obtain⟨ba,bb⟩:=getI_w gb;have bc:=getI_lt gb;obtain⟨l1,gl1,ho⟩:=bS ho;have e1:=setI_eq gl1;obtain⟨l2,gl2,ho⟩:=bS ho;have e2:=setI_eq gl2;subst e1; subst e2;obtain⟨row,grow,ho⟩:=bS ho;obtain⟨rowa,rowb⟩:=getI_w grow;obtain⟨x,gx,ho⟩:=bS ho;obtain⟨xa,xb⟩:=getI_w gx;have xc:=getI_lt gx;obtain⟨by_,gby,ho⟩:=bS ho;have wby:ans A 138 [V.int .i64 p,V.int .i64 x]=some (V.int .i64 by_):=s138 p x gby;obtain⟨row',gr',ho⟩:=bS ho;obtain⟨l3,gl3,ho⟩:=bS ho;have e3:=setI_eq gl3;subst e3;obtain⟨l4,gl4,ho⟩:=bS ho;obtain⟨d1,gd1,ho⟩:=bS ho;have wd1:=chk_w gd1;obtain⟨ka,ua,va1,va2,va3⟩:=(g2' (c,some [V.int .i64 cc])).get ab;obtain⟨kb,ub,vb1,vb2,vb3⟩:=(g2' (c,some [V.int .i64 cc])).get bb;have hml:=g2.len;have hsw:=(g2' (c,some [V.int .i64 cc])).swap vb1 va1 bb ab;generalize hvs2:(vs.set done.toNat (V.sl ka ua 0 a.length 1)).set j.toNat (V.sl kb ub 0 b.length 1)=vs2 at hsw;have hl2:((l.set done.toNat a).set j.toNat b).length=l.length:=by simp
     generalize hll2:(l.set done.toNat a).set j.toNat b=l2 at*;have oa:=ofCells_drop va1;have ob:=ofCells_drop vb1;have td1:List.take done.toNat vs++[V.sl ka ua 0 a.length 1]++List.drop (done.toNat+1) vs=vs.set done.toNat (V.sl ka ua 0 a.length 1):=tsd (by omega);have td2:List.take j.toNat (vs.set done.toNat (V.sl ka ua 0 a.length 1))++[V.sl kb ub 0 b.length 1]++List.drop (j.toNat+1) (vs.set done.toNat (V.sl ka ua 0 a.length 1))=vs2:=(tsd (by simp; omega)).trans hvs2;have hd1':done.toNat+1≤vs.length:=by omega
     have hj1':j.toNat+1≤vs.length:=by omega
     have n1:∀y z,((E++[y]).set 0 z)[0]? =some z:=fun y z=> set_app_key (by simp);have n2:∀y z,((E++[y]).set 0 z)[E.length]? =some y:=fun y z=>(set_ne (by omega)).trans (get_last _ _);have hsw2:∀z,MatAt ((E++[(c,some [V.int .i64 cc])]).set 0 z) vs2 l2 (fun k=> 1≤k∧k < E.length):=fun z=> hsw.frame fun k hk h=> set_ne (by omega);obtain⟨kr,ur,vr1,vr2,vr3⟩:=(hsw2 (u,some vs2)).get rowb;have orr:=ofCells_drop vr1;have ox:ofCells none (List.drop cc.toNat (row.map Enc.enc))=some (V.int .i64 x):=ofCells_drop (by rw[List.getElem?_map,xb]; rfl);have hvl:vs2.length=l.length:=by rw[hsw.len,hl2]
     simp only[simprocAttr, -Int.reduceNatCast',R1,b133_2,hl_1,h0_1,h5_1,h8_1,h34_1,h35_1,eq_true hlt,hw,Option.map_some,Option.map_none,wsl,wfz,wat,get_last,set_last,eq_false hat,wj,aa,eq_true ac,ba,eq_true bc,g1',oa,ob,List.length_set,eq_true hd1',eq_true hj1',td1,td2,List.set_set,n1,n2,orr,xa,eq_true xc,vr2,ox,wby];have hd1v:d1=done+1:=by
      unfold chk at gd1; split at gd1
      ·cases gd1; rfl
      ·cases gd1
     have kr0:1≤kr:=vr3.1;have krE:kr < E.length:=vr3.2;have m0:∀z,(((E++[(c,some [V.int .i64 cc])]).set 0 (u,some vs2)).set kr z)[0]? =some (u,some vs2):=fun z=>(set_ne (by omega)).trans (n1 _ _);have mk:∀z,(((E++[(c,some [V.int .i64 cc])]).set 0 (u,some vs2)).set kr z)[kr]? =some z:=fun z=> set_app_key (by simp; omega);have mN:∀z,(((E++[(c,some [V.int .i64 cc])]).set 0 (u,some vs2)).set kr z)[E.length]? =some (c,some [V.int .i64 cc]):=fun z=>(set_ne (by omega)).trans (n2 _ _);have hdl:done < (l.length:Int):=by omega
     show W A (.block 4 (.loop true b133_3)) _ _ _;rw[W_block];refine W_forR gr' _ rfl (fun k s e h=> s.length=row.length∧h=⟨((E++[(c,some [V.int .i64 cc])]).set 0 (u,some vs2)).set kr (ur,some (s.map Enc.enc)),c+1⟩∧e.length=134∧e.at 0=V.int .i64 p∧e.at 5=V.sl 0 u 0 l.length 1∧e.at 8=V.int .i64 done∧e.at 9=V.ptr E.length c 0∧e.at 11=V.int .i64 by_∧e.at 34=V.int .i64 (r0.length:Int)∧e.at 35=V.int .i64 cc∧e.at 76=V.int .i64 (row.length:Int)∧e.at 77=V.int .i64 k) ?_ ?_ ?_
     ·refine⟨rfl,by rw[set_self vr2],?_⟩
      simp only[simprocAttr, -Int.reduceNatCast',R1,hl_1,h0_1,h5_1,h8_1,h34_1,h35_1]
     ·clear hl_1 h0_1 h5_1 h8_1 h34_1 h35_1
      rintro k q e h ⟨hq,rfl,hl_1,h0_1,h5_1,h8_1,h9_1,h11_1,h34_1,h35_1,h76_1,h77_1⟩ hlt3 hw3 s3 ho3;unfold F133_3_B at ho3;obtain⟨x3,gx3,ho3⟩:=bS ho3;obtain⟨x3a,x3b⟩:=getI_w gx3;obtain⟨m3,gm3,ho3⟩:=bS ho3;have wm3:=chk_w gm3;obtain⟨z3,gz3,ho3⟩:=bS ho3;obtain⟨wz30,wz3⟩:=rem_w gz3;obtain⟨q2,gq2,ho3⟩:=bS ho3;obtain⟨s31,s32,s33,s34,s35⟩:=setI_w gq2;have hE:=Option.some.inj ho3; subst hE;have o3:ofCells none (List.drop k.toNat (q.map Enc.enc))=some (V.int .i64 x3):=ofCells_drop (by rw[List.getElem?_map,x3b]; rfl);have hk3:k < (row.length:Int):=hlt3;have s35':List.take k.toNat (q.map Enc.enc)++[V.int .i64 z3]++List.drop (k.toNat+1) (q.map Enc.enc)=List.map Enc.enc q2:=s35;simp only[simprocAttr, -Int.reduceNatCast',R1,b133_3,hl_1,h0_1,h5_1,h8_1,h9_1,h11_1,h34_1,h35_1,h76_1,h77_1,hw3,eq_true hlt3,hd0,eq_true hdl,m0,mk,orr,x3a,o3,wm3,wz30,wz3,s33,s35',List.set_set];refine ai rfl ⟨by omega,rfl,?_⟩;simp only[simprocAttr, -Int.reduceNatCast',R1,hl_1,h0_1,h5_1,h8_1,h9_1,h11_1,h34_1,h35_1,h76_1,h77_1,hw3]
     ·clear hl_1 h0_1 h5_1 h8_1 h34_1 h35_1
      rintro k q e h ⟨hq,rfl,hl_1,h0_1,h5_1,h8_1,h9_1,h11_1,h34_1,h35_1,h76_1,h77_1⟩ hge3 t3 ho3;unfold F133_3_D at ho3;have hE:=Option.some.inj ho3; subst hE;simp only[simprocAttr, -Int.reduceNatCast',R1,b133_3,hl_1,h0_1,h5_1,h8_1,h9_1,h11_1,h34_1,h35_1,h76_1,h77_1,eq_false hge3];intro ht; subst ht;have hmw:=MatAt.write (hsw2 (u,some vs2)) rowb vr1 hq;have hl3:((l2.set done.toNat q).length:Int)=(l.length:Int):=by rw[List.length_set,hl2]
      rw[hl3]at gl4;show W A (.block 6 (.loop true b133_4)) _ _ _;rw[W_block];refine W_forR gl4 _ rfl (fun i s e h=> s.length=l.length∧h.ents[0]? =some (u,some vs2)∧MatAt h.ents vs2 s (fun k=> 1≤k∧k < E.length)∧h.ents[E.length]? =some (c,some [V.int .i64 cc])∧e.length=134∧e.at 0=V.int .i64 p∧e.at 5=V.sl 0 u 0 l.length 1∧e.at 8=V.int .i64 done∧e.at 9=V.ptr E.length c 0∧e.at 34=V.int .i64 (r0.length:Int)∧e.at 35=V.int .i64 cc∧e.at 99=V.int .i64 (l.length:Int)∧e.at 100=V.int .i64 i) ?_ ?_ ?_
      ·refine⟨by omega,m0 _,hmw,mN _,?_⟩
       simp only[simprocAttr, -Int.reduceNatCast',R1,hl_1,h0_1,h5_1,h8_1,h9_1,h11_1,h34_1,h35_1,h76_1,h77_1]
      ·clear hl_1 h0_1 h5_1 h8_1 h9_1 h11_1 h34_1 h35_1 h76_1 h77_1
       rintro i q4 e ⟨E4,c4⟩ ⟨hq4,f1,f2,f3,hl_1,h0_1,h5_1,h8_1,h9_1,h34_1,h35_1,h99_1,h100_1⟩ hlt4 hw4 s4 ho4;unfold F133_4_B at ho4;simp only at f1 f2 f3;by_cases hi:i=done
       ·rw[if_pos hi]at ho4
        have hE:=Option.some.inj ho4; subst hE;simp only[simprocAttr, -Int.reduceNatCast',R1,b133_4,hl_1,h0_1,h5_1,h8_1,h9_1,h34_1,h35_1,h99_1,h100_1,hw4,eq_true hlt4,eq_true hi];refine ai rfl ⟨hq4,f1,f2,f3,?_⟩;simp only[simprocAttr, -Int.reduceNatCast',R1,hl_1,h0_1,h5_1,h8_1,h9_1,h34_1,h35_1,h99_1,h100_1,hw4]
       ·rw[if_neg hi]at ho4
        obtain⟨ri,gri,ho4⟩:=bS ho4;obtain⟨ria,rib⟩:=getI_w gri;obtain⟨oi,goi,ho4⟩:=bS ho4;obtain⟨oia,oib⟩:=getI_w goi;obtain⟨xi,gxi,ho4⟩:=bS ho4;obtain⟨xia,xib⟩:=getI_w gxi;have xic:=getI_lt gxi;obtain⟨r',gr'',ho4⟩:=bS ho4;obtain⟨l',gl',ho4⟩:=bS ho4;have e4:=setI_eq gl';subst e4;have hE:=Option.some.inj ho4; subst hE;obtain⟨ki,ui,vi1,vi2,vi3⟩:=f2.get rib;obtain⟨ko,uo,vo1,vo2,vo3⟩:=f2.get oib;have hko:ko≠ki:=fun q=> hi (by have:=f2.inj _ _ _ _ _ _ _ _ vo1 vi1 q; omega);have oi1:=ofCells_drop vi1;have oo1:=ofCells_drop vo1;have ox1:ofCells none (List.drop cc.toNat (ri.map Enc.enc))=some (V.int .i64 xi):=ofCells_drop (by rw[List.getElem?_map,xib]; rfl);obtain⟨wc,wcl⟩:=d139 gr'' E4 c4 vi2 vo2 hko;have hi4:i < (l.length:Int):=hlt4;simp only[simprocAttr, -Int.reduceNatCast',R1,b133_4,hl_1,h0_1,h5_1,h8_1,h9_1,h34_1,h35_1,h99_1,h100_1,hw4,eq_true hlt4,eq_false hi,hd0,eq_true hdl,ria,f1,f3,oi1,oo1,vi2,xia,eq_true xic,ox1,callM_plain_eq,wc];refine ai rfl ⟨by rw[List.length_set]; exact hq4,(set_ne (by omega)).trans f1,f2.write rib vi1 wcl,(set_ne (by omega)).trans f3,?_⟩;simp only[simprocAttr, -Int.reduceNatCast',R1,hl_1,h0_1,h5_1,h8_1,h9_1,h34_1,h35_1,h99_1,h100_1,hw4]
      ·clear hl_1 h0_1 h5_1 h8_1 h9_1 h11_1 h34_1 h35_1 h76_1 h77_1
       rintro i q4 e ⟨E4,c4⟩ ⟨hq4,f1,f2,f3,hl_1,h0_1,h5_1,h8_1,h9_1,h34_1,h35_1,h99_1,h100_1⟩ hge4 t4 ho4;unfold F133_4_D at ho4;have hE:=Option.some.inj ho4; subst hE;simp only at f1 f2 f3;have wd1':Go.IntKind.wrap .i64 (done+1)=d1:=wd1;by_cases hb:d1=(q4.length:Int)
       ·have hb':d1=(l.length:Int):=by omega
        have wsh:=slice_hi (key:=0) (uid:=u) (n:=l.length) (d:=d1) (by omega) (by omega);simp only[simprocAttr, -Int.reduceNatCast',R1,b133_4,hl_1,h0_1,h5_1,h8_1,h9_1,h34_1,h35_1,h99_1,h100_1,eq_false hge4,wd1',eq_true hb',Option.map_some,Option.map_none,wsh];intro ht; subst ht;rw[if_pos hb]at ho;have hE:=Option.some.inj ho; subst hE;intro ht; subst ht;simp only[simprocAttr, -Int.reduceNatCast',R1,hl_1,h0_1,h5_1,h8_1,h9_1,h34_1,h35_1,h99_1,h100_1,Option.map_some,Option.map_none,wsh];simp only at hF;rw[if_pos ⟨by omega,by omega⟩]at hF;have hE:=Option.some.inj hF; subst hE;have hrl:(q4.take d1.toNat).length=d1.toNat:=by simp; omega
        refine ai (fun _=> trivial) ⟨_,?_,u,vs2,q4,rfl,f1,f2.mono fun k _ h=> h.1,by rw[hrl]⟩;simp only[simprocAttr, -Int.reduceNatCast',R1,fn_out,p133,Rs.ev,hl_1,hrl]
       ·have hb':¬d1=(l.length:Int):=by omega
        simp only[simprocAttr, -Int.reduceNatCast',R1,b133_4,hl_1,h0_1,h5_1,h8_1,h9_1,h34_1,h35_1,h99_1,h100_1,eq_false hge4,wd1',eq_false hb',hw];intro ht; subst ht;rw[if_neg hb]at ho;have hE:=Option.some.inj ho; subst hE;refine ai rfl ⟨u,vs2,f1,f2.mono fun k _ h=> h.1,?_⟩;simp only[simprocAttr, -Int.reduceNatCast',R1,hl_1,h0_1,h5_1,h8_1,h9_1,h34_1,h35_1,h99_1,h100_1,hq4]
   ·clear hl_1 h0_1 h5_1 h15_1 h16_1 h17_1 g1 g2 k0 u0 v1 v2 v3 o1
    rintro cc ⟨l,done⟩ e ⟨E,c⟩ ⟨u,vs,g1,g2,hl_1,h0_1,h5_1,h8_1,h34_1,h35_1⟩ hge t1 ho;unfold F133_2_D at ho;have hE:=Option.some.inj ho; subst hE;simp only at g1 g2 h5_1 h8_1;simp only[simprocAttr, -Int.reduceNatCast',R1,b133_2,hl_1,h0_1,h5_1,h8_1,h34_1,h35_1,eq_false hge,Option.map_some,Option.map_none];intro ht; subst ht;simp only at hF;split at hF
    case isFalse=> cases hF
    rename_i hdn;have wsh:=slice_hi (key:=0) (uid:=u) (n:=l.length) (d:=done) hdn.1 (by omega);have hE:=Option.some.inj hF; subst hE;have hrl:(l.take done.toNat).length=done.toNat:=by simp; omega
    simp only[simprocAttr, -Int.reduceNatCast',R1,hl_1,wsh];refine ai (fun _=> trivial) ⟨_,?_,u,vs,l,rfl,g1,g2,by rw[hrl]⟩;simp only[simprocAttr, -Int.reduceNatCast',R1,fn_out,p133,Rs.ev,hl_1,hrl]
theorem s133(p:Int)(rows:List (List Int)){r:List (List Int)}(hF:F133 p rows=some r):ans A 133 [V.int .i64 p,V.isl (rows.map Enc.enc)]=some (Enc.enc r):=by
 obtain⟨_,h',h1,u,vs,l,rfl,h2,h3,h4⟩:=d133 p rows hF;have hl:r.length≤l.length:=by have:=congrArg List.length h4; simp at this; omega
 have:=h3.fz h'.clk (key:=0) (uid:=u) (off:=0) (n:=r.length) h2 (by omega);rw[List.drop_zero,←h4]at this;unfold ans;rw[h1];exact this
theorem mtk133(f:Nat):∀ (ws:List V) (q:List (List Int)) (h:Heap),ws.length=q.length→(∀ (i:Nat) v r,ws[i]? =some v→q[i]? =some r→∃k u,v= .sl k u 0 r.length 1∧h.ents[k]? =some (u,some (r.map Enc.enc)))→
  (∀ (i j k u n k' u' n':Nat),ws[i]? =some (.sl k u 0 n 1)→ws[j]? =some (.sl k' u' 0 n' 1)→k=k'→i=j)→∃h',mapS (take (f+2) [1]) ws h=some (q.map Enc.enc,h')
 | [],[],h,_,_,_=>⟨h,rfl⟩
 |v::ws,r::q,h,hl,hr,hi=> by
  obtain⟨k,u,rfl,g⟩:=hr 0 v r rfl rfl;have e:(List.map (Enc.enc:Int→V) r).take r.length=r.map Enc.enc:=List.take_of_length_le (by simp);have ht:take (f+2) [1] (.sl k u 0 r.length 1) h=some (Enc.enc r,h.kill k):=by
   simp only[take,get_of g,Nat.mul_one,Nat.zero_add,List.drop_zero,List.tail_cons];rw[if_pos ⟨by simp,by omega,by simp[hdOk]⟩,e,take_ints f []];simp only[chunk_1];rfl
  obtain⟨h',h2⟩:=mtk133 f ws q (h.kill k) (by simpa using hl) (fun i v' r' a b=> by
   obtain⟨k',u',e',g'⟩:=hr (i+1) v' r' (by simpa using a) (by simpa using b);refine⟨k',u',e',?_⟩;rw[kill_ne h fun q=>?_]
   ·exact g'
   ·subst e'; subst q
    have:=hi (i+1) 0 _ _ _ _ _ _ (by simpa using a) rfl rfl;omega) (fun i j k1 u1 n1 k2 u2 n2 a b c=> by
   have:=hi (i+1) (j+1) _ _ _ _ _ _ (by simpa using a) (by simpa using b) c;omega)
  exact⟨h',by simp only[mapS,ht,h2,List.map_cons]⟩
theorem mtt133{E:List (Nat×Option (List V))}{vs:List V}{l:List (List Int)}{B:Ks}(m:MatAt E vs l B)(c:Nat){key uid n:Nat}(hk:E[key]? =some (uid,some vs))(hB:¬B key)(hn:n≤l.length):∃h',take 16 [1,1] (.sl key uid 0 n 1) ⟨E,c⟩=some (.isl ((l.take n).map Enc.enc),h'):=by
 have hl:=m.len;obtain⟨h',h2⟩:=mtk133 13 (vs.take n) (l.take n) ((⟨E,c⟩:Heap).kill key) (by simp[hl]) (fun i v r a b=> by
  rw[List.getElem?_take]at a b;split at a
  ·rename_i hi
   rw[if_pos hi]at b;obtain⟨k,u,e,g,hb⟩:=m.row i v r a b;exact⟨k,u,e,by rw[kill_ne _ fun q=> by subst q; exact hB hb]; exact g⟩
  ·cases a) (fun i j k u n1 k' u' n2 a b e=> by
  rw[List.getElem?_take]at a b;split at a
  ·split at b
   ·exact m.inj i j _ _ _ _ _ _ a b e
   ·cases b
  ·cases a)
 refine⟨h',?_⟩;simp only[take,get_of (h:=⟨E,c⟩) hk,Nat.mul_one,Nat.zero_add,List.drop_zero,List.tail_cons];rw[if_pos ⟨by omega,by omega,by simp[hdOk]⟩,h2];simp only[chunk_1]
theorem x133(p:Int)(rows:List (List Int)){r:List (List Int)}(hF:F133 p rows=some r):tans A 133 [1,1] [V.int .i64 p,V.isl (rows.map Enc.enc)]=some (Enc.enc r):=by
 obtain⟨_,h',h1,u,vs,l,rfl,h2,h3,h4⟩:=d133 p rows hF;have hl:r.length≤l.length:=by have:=congrArg List.length h4; simp at this; omega
 obtain⟨h2',q⟩:=mtt133 h3 h'.clk (key:=0) (uid:=u) (n:=r.length) h2 (by decide) hl;rw[←h4]at q;unfold tans;rw[h1];show(match take 16 [1,1] (V.sl 0 u 0 r.length 1) ⟨h'.ents,h'.clk⟩with|some (t,_)=> some t|none=> none)=_;rw[q];rfl
def F125_1_B(a0:Int)(a1:List (List Int))(x2:List Int)(v25_1:Int)(o0_1:(List (List Int))):Option (((List (List Int)))⊕((List (List Int)))):=
 (getI a1 v25_1).bind fun x8=>
(F96 x8).bind fun x10=>
(appZ 8 x10 (a1.length:Int) 0).bind fun l13=>
(chk ((x2.length:Int)+v25_1)).bind fun x14=>
(getI l13 x14).bind fun x15=>
(setI l13 x14 1).bind fun l17=>
(app 24 o0_1 [l17]).bind fun l20=>
some (.inl l20)
def F125_1_D(a0:Int)(a1:List (List Int))(x2:List Int)(v25_1:Int)(o0_1:(List (List Int))):Option ((List (List Int))):=
 some o0_1
def F125_2_B(a0:Int)(x2:List Int)(x22:List (List Int))(v49_2:Int)(o1_2:(List (List Int))):Option (((List (List Int)))⊕((List (List Int)))):=
 (getI x22 v49_2).bind fun x28=>
(slI x28 0 (x2.length:Int)).bind fun l30=>
(F92 l30).bind fun x32=>
if x32=true then
 (slI x28 (x2.length:Int) (x28.length:Int)).bind fun l34=>
 (app 24 o1_2 [l34]).bind fun l37=>
 some (.inl l37)
else
 some (.inl o1_2)
def F125_2_D(a0:Int)(x2:List Int)(x22:List (List Int))(v49_2:Int)(o1_2:(List (List Int))):Option ((List (List Int))):=
 some o1_2
def F125(a0:Int)(a1:List (List Int)):Option (List (List Int)):=
 if(a1.length:Int)=0 then
  some ([]:List (List Int))
 else
  (getI a1 0).bind fun x2=>
  (forR 0 (a1.length:Int) (F125_1_B a0 a1 x2) (F125_1_D a0 a1 x2) ([]:(List (List Int)))).bind fun zo0_1=>
  (F133 a0 zo0_1).bind fun x22=>
  (forR 0 (x22.length:Int) (F125_2_B a0 x2 x22) (F125_2_D a0 x2 x22) ([]:(List (List Int)))).bind fun zo1_2=>
  (F133 a0 zo1_2).bind fun x39=>
  some x39
def I125_1(a0:Int)(a1:List (List Int))(x2:List Int)(v25_1:Int)(o0_1:(List (List Int)))(e:Env)(h:Heap):Prop:=
 ∃u5 k6:Nat,h=⟨[(u5,some (o0_1.map Enc.enc))],k6⟩∧e.length=67∧e.at 0=V.int .i64 a0∧e.at 5=V.int .i64 (a1.length:Int)∧e.at 6=V.int .i64 (x2.length:Int)∧e.at 7=V.sl 0 u5 0 o0_1.length 1∧e.at 23=V.isl (a1.map Enc.enc)∧e.at 24=V.int .i64 (a1.length:Int)∧e.at 25=V.int .i64 v25_1
def P125_1(a0:Int)(a1:List (List Int))(x2:List Int)(zo0_1:(List (List Int)))(x:Ex)(e:Env)(h:Heap):Prop:=
 x= .normal∧∃u5 k6:Nat,h=⟨[(u5,some (zo0_1.map Enc.enc))],k6⟩∧e.length=67∧e.at 0=V.int .i64 a0∧e.at 6=V.int .i64 (x2.length:Int)∧e.at 7=V.sl 0 u5 0 zo0_1.length 1
theorem l125_1(a0:Int)(a1:List (List Int))(x2:List Int){lo:Int}{s:(List (List Int))}{t:(List (List Int))}(hF:forR lo (a1.length:Int) (F125_1_B a0 a1 x2) (F125_1_D a0 a1 x2) s=some t){e:Env}{h:Heap}(hI:I125_1 a0 a1 x2 lo s e h):W A c125_1 e h (P125_1 a0 a1 x2 t):=by
 show W A (.block 0 (.loop false b125_1)) e h _;rw[W_block];refine W_forR hF 1 (by obtain⟨_,_,rfl,_⟩:=hI; rfl) (I125_1 a0 a1 x2) hI ?_ ?_
 ·rintro v25_1 o0_1 e h ⟨u5,k6,rfl,h_4⟩ hlt hw o ho
  unfold F125_1_B at ho;obtain⟨x8,gx8,ho⟩:=bS ho;obtain⟨w9a,w9b⟩:=getI_w gx8;obtain⟨x10,gx10,ho⟩:=bS ho;have w11:tans A 96 [1] [V.isl (x8.map Enc.enc)]=some (V.isl (x10.map Enc.enc)):=t96 x8 gx10;have w11t:=thaw_one (α:=Int) x10;obtain⟨l13,gl13,ho⟩:=bS ho;obtain⟨w12a,w12b,w12c,w12d,w12e,w12f⟩:=appZ_w gl13;replace w12f:List.map Enc.enc (List.replicate (Int.toNat (a1.length:Int)) (0:Int))=(List.replicate (Int.toNat (a1.length:Int)) [V.int .i64 0]).flatten:=w12f;have w12:=fun a b c d e=> appendV_w (α:=Int) (n:=x10.length) (m:=(Int.toNat (a1.length:Int))) (ds:=(List.replicate (Int.toNat (a1.length:Int)) [V.int .i64 0]).flatten) w12d (by first|rfl|simp) w12e w12f a b c d e;have w12l:=app_len w12d;obtain⟨x14,gx14,ho⟩:=bS ho;have wx14:=chk_w gx14;obtain⟨x15,gx15,ho⟩:=bS ho;obtain⟨w16a,w16b⟩:=getI_w gx15;have w16c:=getI_lt gx15;have w16d:List.drop (Int.toNat x14) (l13.map Enc.enc)=(V.int .i64 x15)::List.drop ((Int.toNat x14)+1) (l13.map Enc.enc):=drop_enc w16b;obtain⟨l17,gl17,ho⟩:=bS ho;obtain⟨w18a,w18b,w18c,w18d,w18e⟩:=setI_w gl17;replace w18e:List.take (Int.toNat x14) (l13.map Enc.enc)++[V.int .i64 1]++List.drop (Int.toNat x14+1) (l13.map Enc.enc)=List.map Enc.enc l17:=w18e;obtain⟨l20,gl20,ho⟩:=bS ho;have w19:=fun a b c d e=> appendV_w (α:=List Int) (n:=o0_1.length) (m:=1) (ds:=[V.isl (l17.map Enc.enc)]) gl20 (by first|rfl|simp only[w18d]) (by first|rfl|simp only[w18d]) rfl a b c d e;have w19l:=app_len gl20;cases ho;simp only[simprocAttr, -Int.reduceNatCast',R0,b125_1,h_4,eq_true hlt,hw,w9a,w9b,w11,w11t,w12a,w12b,w12c,w12,wx14,w16a,w16b,w16c,w16d,w18a,w18b,w18c,w18e,takes (α:=Int) l17,take_len (α:=Int) (l:=l17) (n:=l13.length) (by first|rfl|simp only[w18d]),le_of_len (α:=Int) (l:=l17) (n:=l13.length) (by first|rfl|simp only[w18d]),w19];refine ai rfl (ei _ (ei _ (ai rfl ?_)));simp only[simprocAttr, -Int.reduceNatCast',R0,h_4,eq_true hlt,hw,w9a,w9b,w11,w11t,w12a,w12b,w12c,w12,wx14,w16a,w16b,w16c,w16d,w18a,w18b,w18c,w18e,takes (α:=Int) l17,take_len (α:=Int) (l:=l17) (n:=l13.length) (by first|rfl|simp only[w18d]),le_of_len (α:=Int) (l:=l17) (n:=l13.length) (by first|rfl|simp only[w18d]),w19,w18d]
 ·rintro v25_1 o0_1 e h ⟨u5,k6,rfl,h_4⟩ hge t1 ho
  unfold F125_1_D at ho;cases ho;simp only[simprocAttr, -Int.reduceNatCast',R0,b125_1,h_4,eq_false hge];intro ht; subst ht;refine ai rfl (ei _ (ei _ (ai rfl ?_)));simp only[simprocAttr, -Int.reduceNatCast',R0,h_4,eq_false hge]
def I125_2(a0:Int)(x2:List Int)(x22:List (List Int))(v49_2:Int)(o1_2:(List (List Int)))(e:Env)(h:Heap):Prop:=
 ∃u25 k26:Nat,h=⟨[(0,none),(u25,some (o1_2.map Enc.enc))],k26⟩∧e.length=67∧e.at 0=V.int .i64 a0∧e.at 6=V.int .i64 (x2.length:Int)∧e.at 11=V.sl 1 u25 0 o1_2.length 1∧e.at 47=V.isl (x22.map Enc.enc)∧e.at 48=V.int .i64 (x22.length:Int)∧e.at 49=V.int .i64 v49_2
def P125_2(a0:Int)(x2:List Int)(x22:List (List Int))(zo1_2:(List (List Int)))(x:Ex)(e:Env)(h:Heap):Prop:=
 x= .normal∧∃u25 k26:Nat,h=⟨[(0,none),(u25,some (zo1_2.map Enc.enc))],k26⟩∧e.length=67∧e.at 0=V.int .i64 a0∧e.at 11=V.sl 1 u25 0 zo1_2.length 1
theorem l125_2(a0:Int)(x2:List Int)(x22:List (List Int)){lo:Int}{s:(List (List Int))}{t:(List (List Int))}(hF:forR lo (x22.length:Int) (F125_2_B a0 x2 x22) (F125_2_D a0 x2 x22) s=some t){e:Env}{h:Heap}(hI:I125_2 a0 x2 x22 lo s e h):W A c125_2 e h (P125_2 a0 x2 x22 t):=by
 show W A (.block 2 (.loop false b125_2)) e h _;rw[W_block];refine W_forR hF 2 (by obtain⟨_,_,rfl,_⟩:=hI; rfl) (I125_2 a0 x2 x22) hI ?_ ?_
 ·rintro v49_2 o1_2 e h ⟨u25,k26,rfl,h_24⟩ hlt hw o ho
  unfold F125_2_B at ho;obtain⟨x28,gx28,ho⟩:=bS ho;obtain⟨w29a,w29b⟩:=getI_w gx28;obtain⟨l30,gl30,ho⟩:=bS ho;have w31:sliceV 1 (V.isl (x28.map Enc.enc)) none (some (V.int .i64 (x2.length:Int)))=some (V.isl (l30.map Enc.enc)):=sliceV_w (α:=Int) One.one gl30 (.inl ⟨rfl,rfl⟩) (.inr rfl);obtain⟨x32,gx32,ho⟩:=bS ho;have w33:ans A 92 [V.isl (l30.map Enc.enc)]=some (V.bool x32):=s92 l30 gx32;cases x32 with
  |true=>
   rw[if_pos rfl]at ho;obtain⟨l34,gl34,ho⟩:=bS ho;have w35:sliceV 1 (V.isl (x28.map Enc.enc)) (some (V.int .i64 (x2.length:Int))) none=some (V.isl (l34.map Enc.enc)):=sliceV_w (α:=Int) One.one gl34 (.inr rfl) (.inl ⟨rfl,rfl⟩);obtain⟨l37,gl37,ho⟩:=bS ho;have w36:=fun a b c d e=> appendV_w (α:=List Int) (n:=o1_2.length) (m:=1) (ds:=[V.isl (l34.map Enc.enc)]) gl37 (by first|rfl|simp) (by first|rfl|simp) rfl a b c d e;have w36l:=app_len gl37;cases ho;simp only[simprocAttr,R0,b125_2,h_24,eq_true hlt,hw,w29a,w29b,w31,w33,w35,w36];refine ai rfl (ei _ (ei _ (ai rfl ?_)));simp only[simprocAttr,R0,h_24,eq_true hlt,hw,w29a,w29b,w31,w33,w35,w36]
  |false=>
   rw[if_neg Bool.false_ne_true]at ho;cases ho;simp only[simprocAttr,R0,b125_2,h_24,eq_true hlt,hw,w29a,w29b,w31,w33];refine ai rfl (ei _ (ei _ (ai rfl ?_)));simp only[simprocAttr,R0,h_24,eq_true hlt,hw,w29a,w29b,w31,w33]
 ·rintro v49_2 o1_2 e h ⟨u25,k26,rfl,h_24⟩ hge t1 ho
  unfold F125_2_D at ho;cases ho;simp only[simprocAttr,R0,b125_2,h_24,eq_false hge];intro ht; subst ht;refine ai rfl (ei _ (ei _ (ai rfl ?_)));simp only[simprocAttr,R0,h_24,eq_false hge]
theorem s125(a0:Int)(a1:List (List Int)){r:List (List Int)}(hF:F125 a0 a1=some r):ans A 125 [V.int .i64 a0,V.isl (a1.map Enc.enc)]=some (Enc.enc r):=by
 refine ans_of (f:=p125) rfl rfl rfl fun e hl he=>?_;have h0_0:e.at 0=V.int .i64 a0:=he 0 _ rfl;have h1_0:e.at 1=V.isl (a1.map Enc.enc):=he 1 _ rfl;have hl_0:e.length=67:=hl;clear he hl;have h_0:=ai hl_0 (ai h0_0 h1_0);show W A b125 e ⟨[],0⟩ _;unfold F125 at hF;by_cases c1:(a1.length:Int)=0
 ·rw[if_pos c1]at hF
  cases hF;simp only[simprocAttr,R0,b125,h_0,eq_true c1];exact fin_ret (by simp only[simprocAttr,R0,fn_out,p125,Rs.ev,take_len_self,h_0,eq_true c1])
 ·rw[if_neg c1]at hF
  obtain⟨x2,gx2,hF⟩:=bS hF;obtain⟨w3a,w3b⟩:=getI_w gx2;replace w3b:a1[0]? =some x2:=w3b;obtain⟨zo0_1,gt21,hF⟩:=bS hF;simp only[simprocAttr,R0,b125,h_0,eq_false c1,w3a,w3b];refine W.mono (l125_1 a0 a1 x2 gt21 (ei _ (ei _ (ai rfl ?_)))) ?_
  ·simp only[simprocAttr,R0,h_0,eq_false c1,w3a,w3b]
  rintro _ e _ ⟨rfl,u5,k6,rfl,h_7⟩;obtain⟨x22,gx22,hF⟩:=bS hF;have w23:ans A 133 [V.int .i64 a0,V.isl (zo0_1.map Enc.enc)]=some (V.isl (x22.map Enc.enc)):=s133 a0 zo0_1 gx22;obtain⟨zo1_2,gt38,hF⟩:=bS hF;simp only[simprocAttr,R0,h_7,eq_false c1,takes (α:=List Int) zo0_1,w23];refine W.mono (l125_2 a0 x2 x22 gt38 (ei _ (ei _ (ai rfl ?_)))) ?_
  ·simp only[simprocAttr,R0,h_7,eq_false c1,takes (α:=List Int) zo0_1,w23]
  rintro _ e _ ⟨rfl,u25,k26,rfl,h_27⟩;obtain⟨x39,gx39,hF⟩:=bS hF;have w40:ans A 133 [V.int .i64 a0,V.isl (zo1_2.map Enc.enc)]=some (V.isl (x39.map Enc.enc)):=s133 a0 zo1_2 gx39;cases hF;simp only[simprocAttr,R0,h_27,eq_false c1,takes (α:=List Int) zo1_2,w40];exact fin_ret (by simp only[simprocAttr,R0,fn_out,p125,Rs.ev,take_len_self,h_27,eq_false c1,takes (α:=List Int) zo1_2,w40])
def F100(a0:GComplex)(a1:Int):Option (List (List Int)):=
 if a1≤0 then
  (F102 a0 a1).bind fun x2=>
  (F124 x2).bind fun x4=>
  some x4
 else
  (F86 a0).bind fun x6=>
  if x6 < a1 then
   (F102 a0 a1).bind fun x9=>
   (F124 x9).bind fun x11=>
   some x11
  else
   (chk (a1 - 1)).bind fun x13=>
   (getI a0.Maps x13).bind fun x14=>
   (F125 a0.Prime x14).bind fun x16=>
   some x16
theorem s100(a0:GComplex)(a1:Int){r:List (List Int)}(hF:F100 a0 a1=some r):ans A 100 [(eC a0),V.int .i64 a1]=some (Enc.enc r):=by
 refine ans_of (f:=p100) rfl rfl rfl fun e hl he=>?_;have h0_0:e.at 0=(eC a0):=he 0 _ rfl;have h1_0:e.at 1=V.int .i64 a1:=he 1 _ rfl;have hl_0:e.length=26:=hl;clear he hl;have h_0:=ai hl_0 (ai h0_0 h1_0);show W A b100 e ⟨[],0⟩ _;unfold F100 at hF;by_cases c1:a1≤0
 ·rw[if_pos c1]at hF
  obtain⟨x2,gx2,hF⟩:=bS hF;have w3:ans A 102 [(eC a0),V.int .i64 a1]=some (V.int .i64 x2):=s102 a0 a1 gx2;obtain⟨x4,gx4,hF⟩:=bS hF;have w5:ans A 124 [V.int .i64 x2]=some (V.isl (x4.map Enc.enc)):=s124 x2 gx4;cases hF;simp only[simprocAttr,R0,b100,h_0,eq_true c1,w3,w5];exact fin_ret (by simp only[simprocAttr,R0,fn_out,p100,Rs.ev,take_len_self,h_0,eq_true c1,w3,w5])
 ·rw[if_neg c1]at hF
  obtain⟨x6,gx6,hF⟩:=bS hF;have w7:ans A 86 [(eC a0)]=some (V.int .i64 x6):=s86 a0 gx6;by_cases c8:x6 < a1
  ·rw[if_pos c8]at hF
   obtain⟨x9,gx9,hF⟩:=bS hF;have w10:ans A 102 [(eC a0),V.int .i64 a1]=some (V.int .i64 x9):=s102 a0 a1 gx9;obtain⟨x11,gx11,hF⟩:=bS hF;have w12:ans A 124 [V.int .i64 x9]=some (V.isl (x11.map Enc.enc)):=s124 x9 gx11;cases hF;simp only[simprocAttr,R0,b100,h_0,eq_false c1,w7,eq_true c8,w10,w12];exact fin_ret (by simp only[simprocAttr,R0,fn_out,p100,Rs.ev,take_len_self,h_0,eq_false c1,w7,eq_true c8,w10,w12])
  ·rw[if_neg c8]at hF
   obtain⟨x13,gx13,hF⟩:=bS hF;have wx13:=chk_w gx13;obtain⟨x14,gx14,hF⟩:=bS hF;obtain⟨w15a,w15b⟩:=getI_w gx14;obtain⟨x16,gx16,hF⟩:=bS hF;have w17:ans A 125 [V.int .i64 a0.Prime,V.isl (x14.map Enc.enc)]=some (V.isl (x16.map Enc.enc)):=s125 a0.Prime x14 gx16;cases hF;simp only[simprocAttr,R0,b100,h_0,eq_false c1,w7,eq_false c8,wx13,w15a,w15b,w17];exact fin_ret (by simp only[simprocAttr,R0,fn_out,p100,Rs.ev,take_len_self,h_0,eq_false c1,w7,eq_false c8,wx13,w15a,w15b,w17])
def F186(a0:GComplex)(a1:Int):Option (List (List Int)):=
 if a1 < 0 then
  some ([]:List (List Int))
 else
  (F86 a0).bind fun x2=>
  if x2≤a1 then
   some ([]:List (List Int))
  else
   (getI a0.Maps a1).bind fun x5=>
   (F133 a0.Prime x5).bind fun x7=>
   some x7
theorem s186(a0:GComplex)(a1:Int){r:List (List Int)}(hF:F186 a0 a1=some r):ans A 186 [(eC a0),V.int .i64 a1]=some (Enc.enc r):=by
 refine ans_of (f:=p186) rfl rfl rfl fun e hl he=>?_;have h0_0:e.at 0=(eC a0):=he 0 _ rfl;have h1_0:e.at 1=V.int .i64 a1:=he 1 _ rfl;have hl_0:e.length=21:=hl;clear he hl;have h_0:=ai hl_0 (ai h0_0 h1_0);show W A b186 e ⟨[],0⟩ _;unfold F186 at hF;by_cases c1:a1 < 0
 ·rw[if_pos c1]at hF
  cases hF;simp only[simprocAttr,R0,b186,h_0,eq_true c1];exact fin_ret (by simp only[simprocAttr,R0,fn_out,p186,Rs.ev,take_len_self,h_0,eq_true c1])
 ·rw[if_neg c1]at hF
  obtain⟨x2,gx2,hF⟩:=bS hF;have w3:ans A 86 [(eC a0)]=some (V.int .i64 x2):=s86 a0 gx2;by_cases c4:x2≤a1
  ·rw[if_pos c4]at hF
   cases hF;simp only[simprocAttr,R0,b186,h_0,eq_false c1,w3,eq_true c4];exact fin_ret (by simp only[simprocAttr,R0,fn_out,p186,Rs.ev,take_len_self,h_0,eq_false c1,w3,eq_true c4])
  ·rw[if_neg c4]at hF
   obtain⟨x5,gx5,hF⟩:=bS hF;obtain⟨w6a,w6b⟩:=getI_w gx5;obtain⟨x7,gx7,hF⟩:=bS hF;have w8:ans A 133 [V.int .i64 a0.Prime,V.isl (x5.map Enc.enc)]=some (V.isl (x7.map Enc.enc)):=s133 a0.Prime x5 gx7;cases hF;simp only[simprocAttr,R0,b186,h_0,eq_false c1,w3,eq_false c4,w6a,w6b,w8];exact fin_ret (by simp only[simprocAttr,R0,fn_out,p186,Rs.ev,take_len_self,h_0,eq_false c1,w3,eq_false c4,w6a,w6b,w8])
def F123(a0:Int):Option Bool:=
 some (!(decide (a0=0)))
theorem s123(a0:Int){r:Bool}(hF:F123 a0=some r):ans A 123 [V.int .i64 a0]=some (Enc.enc r):=by
 refine ans_of (f:=p123) rfl rfl rfl fun e hl he=>?_;have h0_0:e.at 0=V.int .i64 a0:=he 0 _ rfl;have hl_0:e.length=5:=hl;clear he hl;show W A b123 e ⟨[],0⟩ _;unfold F123 at hF;cases hF;simp only[simprocAttr,R0,b123,hl_0,h0_0];exact fin_ret (by simp only[simprocAttr,R0,fn_out,p123,Rs.ev,take_len_self,hl_0,h0_0])
def F101_1_B(a0:List (List Int))(v9_1:Int)(o0_1:(List Int)):Option (((List Int))⊕((List Int))):=
 (getI a0 v9_1).bind fun x5=>
(F115 x5 (fun x=> F123 x)).bind fun x7=>
(app 8 o0_1 [x7]).bind fun l10=>
some (.inl l10)
def F101_1_D(a0:List (List Int))(v9_1:Int)(o0_1:(List Int)):Option ((List Int)):=
 some o0_1
def F101(a0:List (List Int)):Option (List Int):=
 (forR 0 (a0.length:Int) (F101_1_B a0) (F101_1_D a0) ([]:(List Int))).bind fun zo0_1=>
 some zo0_1
def I101_1(a0:List (List Int))(v9_1:Int)(o0_1:(List Int))(e:Env)(h:Heap):Prop:=
 ∃u2 k3:Nat,h=⟨[(u2,some (o0_1.map Enc.enc))],k3⟩∧e.length=20∧e.at 3=V.sl 0 u2 0 o0_1.length 1∧e.at 7=V.isl (a0.map Enc.enc)∧e.at 8=V.int .i64 (a0.length:Int)∧e.at 9=V.int .i64 v9_1
def P101_1(a0:List (List Int))(zo0_1:(List Int))(x:Ex)(e:Env)(h:Heap):Prop:=
 x= .normal∧∃u2 k3:Nat,h=⟨[(u2,some (zo0_1.map Enc.enc))],k3⟩∧e.length=20∧e.at 3=V.sl 0 u2 0 zo0_1.length 1
theorem l101_1(a0:List (List Int)){lo:Int}{s:(List Int)}{t:(List Int)}(hF:forR lo (a0.length:Int) (F101_1_B a0) (F101_1_D a0) s=some t){e:Env}{h:Heap}(hI:I101_1 a0 lo s e h):W A c101_1 e h (P101_1 a0 t):=by
 show W A (.block 0 (.loop false b101_1)) e h _;rw[W_block];refine W_forR hF 1 (by obtain⟨_,_,rfl,_⟩:=hI; rfl) (I101_1 a0) hI ?_ ?_
 ·rintro v9_1 o0_1 e h ⟨u2,k3,rfl,h_1⟩ hlt hw o ho
  unfold F101_1_B at ho;obtain⟨x5,gx5,ho⟩:=bS ho;obtain⟨w6a,w6b⟩:=getI_w gx5;obtain⟨x7,gx7,ho⟩:=bS ho;have w8:ans A 115 [V.isl (x5.map Enc.enc),V.fn 123 [] []]=some (V.int .i64 x7):=s115 x5 (fun x=> F123 x) (Clo1.of (by intro h f; simp only[RZ,mapO]) (by intro h f; simp only[RZ,mapO]) (by intro f; simp only[RZ,RB]) (by intro f; simp only[RZ,RB]) (fun x _ hr=> s123 x hr)) gx7;obtain⟨l10,gl10,ho⟩:=bS ho;have w9:=fun a b c d e=> appendV_w (α:=Int) (n:=o0_1.length) (m:=1) (ds:=[V.int .i64 x7]) gl10 (by first|rfl|simp) (by first|rfl|simp) rfl a b c d e;have w9l:=app_len gl10;cases ho;simp only[simprocAttr,R0,b101_1,h_1,eq_true hlt,hw,w6a,w6b,w8,w9];refine ai rfl (ei _ (ei _ (ai rfl ?_)));simp only[simprocAttr,R0,h_1,eq_true hlt,hw,w6a,w6b,w8,w9]
 ·rintro v9_1 o0_1 e h ⟨u2,k3,rfl,h_1⟩ hge t1 ho
  unfold F101_1_D at ho;cases ho;simp only[simprocAttr,R0,b101_1,h_1,eq_false hge];intro ht; subst ht;refine ai rfl (ei _ (ei _ (ai rfl ?_)));simp only[simprocAttr,R0,h_1,eq_false hge]
theorem s101(a0:List (List Int)){r:List Int}(hF:F101 a0=some r):ans A 101 [V.isl (a0.map Enc.enc)]=some (Enc.enc r):=by
 refine ans_of (f:=p101) rfl rfl rfl fun e hl he=>?_;have h0_0:e.at 0=V.isl (a0.map Enc.enc):=he 0 _ rfl;have hl_0:e.length=20:=hl;clear he hl;show W A b101 e ⟨[],0⟩ _;unfold F101 at hF;obtain⟨zo0_1,gt11,hF⟩:=bS hF;simp only[simprocAttr, -Int.reduceNatCast',R0,b101,hl_0,h0_0];refine W.mono (l101_1 a0 gt11 (ei _ (ei _ (ai rfl ?_)))) ?_
 ·simp only[simprocAttr, -Int.reduceNatCast',R0,hl_0,h0_0]
 rintro _ e _ ⟨rfl,u2,k3,rfl,hl_4,h3_4⟩;have hE:=Option.some.inj hF; subst hE;simp only[simprocAttr, -Int.reduceNatCast',R0,hl_4,h3_4];exact fin_ret (by simp only[simprocAttr, -Int.reduceNatCast',R0,fn_out,p101,Rs.ev,take_len_self,hl_4,h3_4,frzs (α:=Int) zo0_1,takes (α:=Int) zo0_1])
def F205_1_B(p:Int)(rows:List (List Int))(ls:List Int)(i:Int)(out:List Int):Option (List Int⊕List Int):=(getI ls i).bind fun a=>(getI rows i).bind fun r=>(getI out a).bind fun x=>(F139 out r p x).bind fun o=> some (.inl o)
def F205_1_D(i:Int)(out:List Int):Option (List Int):=some out
def F205(p:Int)(v:List Int)(rows:List (List Int)):Option (List Int):=(F96 v).bind fun d=>(F101 rows).bind fun ls=> forR 0 (ls.length:Int) (F205_1_B p rows ls) F205_1_D d
theorem d205(p:Int)(v:List Int)(rows:List (List Int)){r:List Int}(hF:F205 p v rows=some r):∃w h',res A 205 [V.int .i64 p,V.isl (v.map Enc.enc),V.isl (rows.map Enc.enc)] Heap.empty=some (w,h')∧∃K,Deep.rep h' w r K:=by
 refine res_dp (f:=p205) rfl rfl rfl fun e hl he=>?_;have h0_0:e.at 0=V.int .i64 p:=he 0 _ rfl;have h1_0:e.at 1=V.isl (v.map Enc.enc):=he 1 _ rfl;have h2_0:e.at 2=V.isl (rows.map Enc.enc):=he 2 _ rfl;have hl_0:e.length=33:=hl;clear he hl;show W A b205 e ⟨[],0⟩ _;unfold F205 at hF;obtain⟨d,gd,hF⟩:=bS hF;have wd:=t96 v gd;obtain⟨ls,gls,hF⟩:=bS hF;have wls:ans A 101 [V.isl (rows.map Enc.enc)]=some (V.isl (ls.map Enc.enc)):=s101 rows gls;simp only[simprocAttr,R1,b205,hl_0,h0_0,h1_0,h2_0,wd,wls,callM_tans,thaw_one];show W A (.block 0 (.loop true b205_1)) _ _ _;rw[W_block];refine W_forR hF _ rfl (fun i q e h=>∃k u,h.ents[k]? =some (u,some (q.map Enc.enc))∧e.length=33∧e.at 0=V.int .i64 p∧e.at 2=V.isl (rows.map Enc.enc)∧e.at 7=V.sl k u 0 q.length 1∧e.at 13=V.isl (ls.map Enc.enc)∧e.at 14=V.int .i64 (ls.length:Int)∧e.at 15=V.int .i64 i) ?_ ?_ ?_
 ·refine⟨0,0,rfl,?_⟩
  simp only[simprocAttr,R1,hl_0,h0_0,h1_0,h2_0]
 ·clear hl_0 h0_0 h1_0 h2_0
  rintro i q e ⟨E,c⟩ ⟨k,u,g1,h_1⟩ hlt hw s' ho;unfold F205_1_B at ho;simp only at g1;obtain⟨a,ga,ho⟩:=bS ho;obtain⟨aa,ab⟩:=getI_w ga;obtain⟨x,gx,ho⟩:=bS ho;obtain⟨xa,xb⟩:=getI_w gx;obtain⟨y,gy,ho⟩:=bS ho;obtain⟨ya,yb⟩:=getI_w gy;have yc:=getI_lt gy;obtain⟨o,go,ho⟩:=bS ho;cases ho;obtain⟨w1,w2⟩:=i139 go E c g1;have oy:ofCells none (List.drop a.toNat (q.map Enc.enc))=some (V.int .i64 y):=ofCells_drop (by rw[List.getElem?_map,yb]; rfl);simp only[simprocAttr,R1,b205_1,h_1,eq_true hlt,hw,aa,ab,xa,xb,ya,eq_true yc,g1,oy,callM_plain_eq,w1];refine ai rfl ⟨k,u,set_app_key (List.getElem?_eq_some_iff.1 g1).1,?_⟩;simp only[simprocAttr,R1,h_1,hw,w2]
 ·clear hl_0 h0_0 h1_0 h2_0
  rintro i q e ⟨E,c⟩ ⟨k,u,g1,h_1⟩ hge t1 ho;unfold F205_1_D at ho;cases ho;simp only at g1;simp only[simprocAttr,R1,b205_1,h_1,eq_false hge];intro ht; subst ht;refine ai (fun _=> trivial) ⟨_,?_,fun x=> x=k,int_row (l:=q) g1 fun x=> Iff.rfl⟩;simp only[simprocAttr,R1,fn_out,p205,Rs.ev,h_1]
theorem s205(p:Int)(v:List Int)(rows:List (List Int)){r:List Int}(hF:F205 p v rows=some r):ans A 205 [V.int .i64 p,V.isl (v.map Enc.enc),V.isl (rows.map Enc.enc)]=some (Enc.enc r):=ans_of_deep (α:=List Int) (by decide) (d205 p v rows hF)
def F204_1_B(a0:Int)(a1:List (List Int))(a2:List (List Int))(v13_1:Int)(o0_1:(List (List Int))):Option (((List (List Int)))⊕((List (List Int)))):=
 (getI a1 v13_1).bind fun x5=>
(F205 a0 x5 a2).bind fun x7=>
(app 24 o0_1 [x7]).bind fun l10=>
some (.inl l10)
def F204_1_D(a0:Int)(a1:List (List Int))(a2:List (List Int))(v13_1:Int)(o0_1:(List (List Int))):Option ((List (List Int))):=
 some o0_1
def F204(a0:Int)(a1:List (List Int))(a2:List (List Int)):Option (List (List Int)):=
 (forR 0 (a1.length:Int) (F204_1_B a0 a1 a2) (F204_1_D a0 a1 a2) ([]:(List (List Int)))).bind fun zo0_1=>
 (F133 a0 zo0_1).bind fun x12=>
 some x12
theorem d204(a0:Int)(a1:List (List Int))(a2:List (List Int)){r:List (List Int)}(hF:F204 a0 a1 a2=some r):∃v h',res A 204 [V.int .i64 a0,V.isl (a1.map Enc.enc),V.isl (a2.map Enc.enc)] Heap.empty=some (v,h')∧∃K,Deep.rep h' v r K:=by
 refine res_dp (f:=p204) rfl rfl rfl fun e hl he=>?_;have h0_0:e.at 0=V.int .i64 a0:=he 0 _ rfl;have h1_0:e.at 1=V.isl (a1.map Enc.enc):=he 1 _ rfl;have h2_0:e.at 2=V.isl (a2.map Enc.enc):=he 2 _ rfl;have hl_0:e.length=28:=hl;clear he hl;show W A b204 e ⟨[],0⟩ _;unfold F204 at hF;obtain⟨l,gl,hF⟩:=bS hF;obtain⟨x12,gx12,hF⟩:=bS hF;have hE:=Option.some.inj hF; subst hE;have w13:tans A 133 [1,1] [V.int .i64 a0,V.isl (l.map Enc.enc)]=some (V.isl (x12.map Enc.enc)):=x133 a0 l gx12;simp only[simprocAttr, -Int.reduceNatCast',R0,b204,hl_0,h0_0,h1_0,h2_0];show W A (.block 0 (.loop false b204_1)) _ _ _;rw[W_block];refine W_forR gl 1 rfl (fun i s e h=>∃u k:Nat,h=⟨[(u,some (s.map Enc.enc))],k⟩∧e.length=28∧e.at 0=V.int .i64 a0∧e.at 2=V.isl (a2.map Enc.enc)∧e.at 7=V.sl 0 u 0 s.length 1∧e.at 11=V.isl (a1.map Enc.enc)∧e.at 12=V.int .i64 (a1.length:Int)∧e.at 13=V.int .i64 i) ?_ ?_ ?_
 ·refine⟨_,_,rfl,?_⟩
  simp only[simprocAttr, -Int.reduceNatCast',R0,hl_0,h0_0,h1_0,h2_0]
 ·clear hl_0 h0_0 h1_0 h2_0
  rintro i s e h ⟨u,k,rfl,hl_1,h0_1,h2_1,h7_1,h11_1,h12_1,h13_1⟩ hlt hw o ho;unfold F204_1_B at ho;obtain⟨x5,gx5,ho⟩:=bS ho;obtain⟨w6a,w6b⟩:=getI_w gx5;obtain⟨x7,gx7,ho⟩:=bS ho;have w8:ans A 205 [V.int .i64 a0,V.isl (x5.map Enc.enc),V.isl (a2.map Enc.enc)]=some (V.isl (x7.map Enc.enc)):=s205 a0 x5 a2 gx7;obtain⟨l10,gl10,ho⟩:=bS ho;have w9:=fun ents key uid clk he=> appendV_w (α:=List Int) (n:=s.length) (m:=1) (ds:=[V.isl (x7.map Enc.enc)]) gl10 (by first|rfl|simp only[List.length_nil]) (by first|rfl|simp only[List.length_nil]) rfl ents key uid clk he;have w9l:=app_len gl10;have hE:=Option.some.inj ho; subst hE;simp only[simprocAttr, -Int.reduceNatCast',R0,b204_1,hl_1,h0_1,h2_1,h7_1,h11_1,h12_1,h13_1,eq_true hlt,hw,w6a,w6b,w8,w9];refine ai rfl (ei _ (ei _ (ai rfl ?_)));simp only[simprocAttr, -Int.reduceNatCast',R0,hl_1,h0_1,h2_1,h7_1,h11_1,h12_1,h13_1,eq_true hlt,hw,w6a,w6b,w8,w9]
 ·clear hl_0 h0_0 h1_0 h2_0
  rintro i s e h ⟨u,k,rfl,hl_1,h0_1,h2_1,h7_1,h11_1,h12_1,h13_1⟩ hge t1 ho;unfold F204_1_D at ho;have hE:=Option.some.inj ho; subst hE;simp only[simprocAttr, -Int.reduceNatCast',R0,b204_1,hl_1,h0_1,h2_1,h7_1,h11_1,h12_1,h13_1,eq_false hge];intro ht; subst ht;obtain⟨v,⟨E1,c1⟩,K,t1,t2,t3,t4,t5⟩:=thawD (α:=List (List Int)) (by decide) x12 ⟨[(u,some (s.map Enc.enc))],k⟩;have t1':thaw 16 [1,1] (V.isl (x12.map Enc.enc)) ⟨[(u,some (s.map Enc.enc))],k⟩=some (v,⟨E1,c1⟩):=t1;have wbr:bare 16 [1,1] (V.isl (x12.map Enc.enc))=true:=Deep.br (α:=List (List Int)) x12 10 [];simp only[simprocAttr, -Int.reduceNatCast',R0,hl_1,h0_1,h2_1,h7_1,h11_1,h12_1,h13_1,wbr,frzs (α:=List Int) s,takes (α:=List Int) s,w13,callM_tans,t1'];refine ai (fun _=> trivial) ⟨v,?_,K,t2⟩;simp only[simprocAttr, -Int.reduceNatCast',R0,fn_out,p204,Rs.ev,hl_1]
theorem x204(a0:Int)(a1:List (List Int))(a2:List (List Int)){r:List (List Int)}(hF:F204 a0 a1 a2=some r):tans A 204 [1,1] [V.int .i64 a0,V.isl (a1.map Enc.enc),V.isl (a2.map Enc.enc)]=some (Enc.enc r):=tans_of_deep (α:=List (List Int)) (by decide) (d204 a0 a1 a2 hF)
def F189(a0:GComplex)(a1:Int):Option (List (List Int)):=
 (F100 a0 a1).bind fun x1=>
 (F186 a0 a1).bind fun x3=>
 (F204 a0.Prime x1 x3).bind fun x5=>
 some x5
theorem d189(x:GComplex)(n:Int){r:List (List Int)}(hF:F189 x n=some r):∃v h',res A 189 [(eC x),V.int .i64 n] Heap.empty=some (v,h')∧∃K,Deep.rep h' v r K:=by
 refine res_dp (f:=p189) rfl rfl rfl fun e hl he=>?_;have h0_0:e.at 0=(eC x):=he 0 _ rfl;have h1_0:e.at 1=V.int .i64 n:=he 1 _ rfl;have hl_0:e.length=14:=hl;clear he hl;show W A b189 e ⟨[],0⟩ _;unfold F189 at hF;obtain⟨x1,gx1,hF⟩:=bS hF;have w2:ans A 100 [(eC x),V.int .i64 n]=some (V.isl (x1.map Enc.enc)):=s100 x n gx1;obtain⟨x3,gx3,hF⟩:=bS hF;have w4:ans A 186 [(eC x),V.int .i64 n]=some (V.isl (x3.map Enc.enc)):=s186 x n gx3;obtain⟨x5,gx5,hF⟩:=bS hF;have w6:tans A 204 [1,1] [V.int .i64 x.Prime,V.isl (x1.map Enc.enc),V.isl (x3.map Enc.enc)]=some (V.isl (x5.map Enc.enc)):=x204 x.Prime x1 x3 gx5;have hE:=Option.some.inj hF; subst hE;obtain⟨v,⟨E1,c1⟩,K,t1,t2,t3,t4,t5⟩:=thawD (α:=List (List Int)) (by decide) x5 ⟨[(0,none)],1⟩;have t1':thaw 16 [1,1] (V.isl (x5.map Enc.enc)) ⟨[(0,none)],1⟩=some (v,⟨E1,c1⟩):=t1;simp only[simprocAttr, -Int.reduceNatCast',R0,b189,hl_0,h0_0,h1_0,w2,w4,w6,callM_tans,t1'];refine ai (fun _=> trivial) ⟨v,?_,K,t2⟩;simp only[simprocAttr, -Int.reduceNatCast',R0,fn_out,p189,Rs.ev,hl_0]
theorem s189(x:GComplex)(n:Int){r:List (List Int)}(hF:F189 x n=some r):ans A 189 [(eC x),V.int .i64 n]=some (Enc.enc r):=ans_of_deep (α:=List (List Int)) (by decide) (d189 x n hF)
def F307_1_B(a0:List (List (List (List Int))))(f1:(List (List (List Int)))→Option Bool)(v8_1:Int)(s:Unit):Option ((Unit)⊕((Unit)⊕Int)):=
 (getI a0 v8_1).bind fun x4=>
(f1 x4).bind fun x6=>
if x6=true then
 some (.inr (.inr v8_1))
else
 some (.inl ())
def F307_1_D(a0:List (List (List (List Int))))(f1:(List (List (List Int)))→Option Bool)(v8_1:Int)(s:Unit):Option ((Unit)⊕Int):=
 some (.inl ())
def F307(a0:List (List (List (List Int))))(f1:(List (List (List Int)))→Option Bool):Option Int:=
 (forR 0 (a0.length:Int) (F307_1_B a0 f1) (F307_1_D a0 f1) ()).bind fun t8=> match t8 with
  | .inl _=>
   some (-1)
  | .inr r9=> some r9
def I307_1(a0:List (List (List (List Int))))(f1:(List (List (List Int)))→Option Bool)(vf1:V)(v8_1:Int)(s:Unit)(e:Env)(h:Heap):Prop:=
 ∃k2:Nat,h=⟨[],k2⟩∧e.length=19∧e.at 0=V.isl (a0.map Enc.enc)∧e.at 1=vf1∧e.at 7=V.int .i64 (a0.length:Int)∧e.at 8=V.int .i64 v8_1
def P307_1(a0:List (List (List (List Int))))(f1:(List (List (List Int)))→Option Bool)(vf1:V)(t:(Unit)⊕Int)(x:Ex)(e:Env)(h:Heap):Prop:=
 match t with
 | .inl _=> x= .normal∧∃k2:Nat,h=⟨[],k2⟩∧e.length=19
 | .inr r=> x= .ret∧Fin p307 (Enc.enc r) .ret e h
theorem l307_1(a0:List (List (List (List Int))))(f1:(List (List (List Int)))→Option Bool)(vf1:V)(hf1:Clo1 A vf1 f1){lo:Int}{s:Unit}{t:(Unit)⊕Int}(hF:forR lo (a0.length:Int) (F307_1_B a0 f1) (F307_1_D a0 f1) s=some t){e:Env}{h:Heap}(hI:I307_1 a0 f1 vf1 lo s e h):W A c307_1 e h (P307_1 a0 f1 vf1 t):=by
 obtain⟨g_f1,fs_f1,cs_f1,hv_f1,hc_f1⟩:=id hf1;show W A (.block 0 (.loop false b307_1)) e h _;rw[W_block];refine W_forR hF 0 (by obtain⟨_,rfl,_⟩:=hI; rfl) (I307_1 a0 f1 vf1) hI ?_ ?_
 ·rintro v8_1 _ e h ⟨k2,rfl,h_1⟩ hlt hw o ho
  unfold F307_1_B at ho;obtain⟨x4,gx4,ho⟩:=bS ho;obtain⟨w5a,w5b⟩:=getI_w gx4;obtain⟨x6,gx6,ho⟩:=bS ho;have w7a:∀h,mapO (frz h 16) (fs_f1++[V.isl (x4.map Enc.enc)]++cs_f1)=some (fs_f1++[V.isl (x4.map Enc.enc)]++cs_f1):=fun h=> hc_f1.zf x4 h;have w7b:List.all (fs_f1++[V.isl (x4.map Enc.enc)]++cs_f1) (refless 16)=true:=hc_f1.zr x4;have w7c:ans A g_f1 (fs_f1++[V.isl (x4.map Enc.enc)]++cs_f1)=some (V.bool x6):=hc_f1.ka x4 _ gx6;cases x6 with
  |true=>
   rw[if_pos rfl]at ho;cases ho;simp only[simprocAttr,R0,b307_1,h_1,eq_true hlt,hw,w5a,w5b,hv_f1,w7a,w7b,w7c];intro ht; subst ht;simp only[simprocAttr,RR,RB];exact ai rfl (fin_ret (by simp only[simprocAttr,R0,fn_out,p307,Rs.ev,take_len_self,h_1,eq_true hlt,hw,w5a,w5b,hv_f1,w7a,w7b,w7c]))
  |false=>
   rw[if_neg Bool.false_ne_true]at ho;cases ho;simp only[simprocAttr,R0,b307_1,h_1,eq_true hlt,hw,w5a,w5b,hv_f1,w7a,w7b,w7c];refine ai rfl (ei _ (ai rfl ?_));simp only[simprocAttr,R0,h_1,eq_true hlt,hw,w5a,w5b,hv_f1,w7a,w7b,w7c]
 ·rintro v8_1 _ e h ⟨k2,rfl,h_1⟩ hge t1 ho
  unfold F307_1_D at ho;cases ho;simp only[simprocAttr,R0,b307_1,h_1,eq_false hge];intro ht; subst ht;refine ai rfl (ei _ (ai rfl ?_));simp only[simprocAttr,R0,h_1,eq_false hge]
theorem s307(a0:List (List (List (List Int))))(f1:(List (List (List Int)))→Option Bool){vf1:V}(hf1:Clo1 A vf1 f1){r:Int}(hF:F307 a0 f1=some r):ans A 307 [V.isl (a0.map Enc.enc),vf1]=some (Enc.enc r):=by
 refine ans_of (f:=p307) rfl rfl rfl fun e hl he=>?_;have h0_0:e.at 0=V.isl (a0.map Enc.enc):=he 0 _ rfl;have h1_0:e.at 1=vf1:=he 1 _ rfl;obtain⟨g_f1,fs_f1,cs_f1,hv_f1,hc_f1⟩:=id hf1;have hl_0:e.length=19:=hl;clear he hl;have h_0:=ai hl_0 (ai h0_0 h1_0);show W A b307 e ⟨[],0⟩ _;unfold F307 at hF;obtain⟨t8,gt8,hF⟩:=bS hF;rcases t8 with _|r9
 ·dsimp only at hF
  simp only[simprocAttr,R0,b307,h_0];refine W.mono (l307_1 a0 f1 vf1 hf1 gt8 (ei _ (ai rfl ?_))) ?_
  ·simp only[simprocAttr,R0,h_0]
  rintro _ e _ ⟨rfl,k2,rfl,hl_3⟩;cases hF;simp only[simprocAttr,R0,hl_3];exact fin_ret (by simp only[simprocAttr,R0,fn_out,p307,Rs.ev,take_len_self,hl_3])
 ·dsimp only at hF
  cases hF;simp only[simprocAttr,R0,b307,h_0];refine W.mono (l307_1 a0 f1 vf1 hf1 gt8 (ei _ (ai rfl ?_))) ?_
  ·simp only[simprocAttr,R0,h_0]
  rintro _ e h ⟨rfl,hq⟩;simp only[simprocAttr,RR,RB];exact hq
def F276(a0:List (List (List (List Int))))(f1:(List (List (List Int)))→Option Bool):Option Bool:=
 (F307 a0 f1).bind fun x1=>
 some (decide (0≤x1))
theorem s276(a0:List (List (List (List Int))))(f1:(List (List (List Int)))→Option Bool){vf1:V}(hf1:Clo1 A vf1 f1){r:Bool}(hF:F276 a0 f1=some r):ans A 276 [V.isl (a0.map Enc.enc),vf1]=some (Enc.enc r):=by
 refine ans_of (f:=p276) rfl rfl rfl fun e hl he=>?_;have h0_0:e.at 0=V.isl (a0.map Enc.enc):=he 0 _ rfl;have h1_0:e.at 1=vf1:=he 1 _ rfl;obtain⟨g_f1,fs_f1,cs_f1,hv_f1,hc_f1⟩:=id hf1;have hl_0:e.length=9:=hl;clear he hl;show W A b276 e ⟨[],0⟩ _;unfold F276 at hF;obtain⟨x1,gx1,hF⟩:=bS hF;have w2:ans A 307 [V.isl (a0.map Enc.enc),vf1]=some (V.int .i64 x1):=s307 a0 f1 hf1 gx1;cases hF;simp only[simprocAttr,R0,b276,hl_0,h0_0,h1_0,hf1.fz,hf1.rl,w2];exact fin_ret (by simp only[simprocAttr,R0,fn_out,p276,Rs.ev,take_len_self,hl_0,h0_0,h1_0,hf1.fz,hf1.rl,w2])
def F67(a0:Int):Option Bool:=
 if a0=2 then
  some true
 else
  if a0=3 then
   some true
  else
   if a0=5 then
    some true
   else
    some (decide (a0=7))
theorem s67(a0:Int){r:Bool}(hF:F67 a0=some r):ans A 67 [V.int .i64 a0]=some (Enc.enc r):=by
 refine ans_of (f:=p67) rfl rfl rfl fun e hl he=>?_;have h0_0:e.at 0=V.int .i64 a0:=he 0 _ rfl;have hl_0:e.length=17:=hl;clear he hl;have h_0:=ai hl_0 h0_0;show W A b67 e ⟨[],0⟩ _;unfold F67 at hF;by_cases c1:a0=2
 ·rw[if_pos c1]at hF
  cases hF;simp only[simprocAttr,R0,b67,h_0,eq_true c1];exact fin_ret (by simp only[simprocAttr,R0,fn_out,p67,Rs.ev,take_len_self,h_0,eq_true c1])
 ·rw[if_neg c1]at hF
  by_cases c2:a0=3
  ·rw[if_pos c2]at hF
   cases hF;simp only[simprocAttr,R0,b67,h_0,eq_false c1,eq_true c2];exact fin_ret (by simp only[simprocAttr,R0,fn_out,p67,Rs.ev,take_len_self,h_0,eq_false c1,eq_true c2])
  ·rw[if_neg c2]at hF
   by_cases c3:a0=5
   ·rw[if_pos c3]at hF
    cases hF;simp only[simprocAttr,R0,b67,h_0,eq_false c1,eq_false c2,eq_true c3];exact fin_ret (by simp only[simprocAttr,R0,fn_out,p67,Rs.ev,take_len_self,h_0,eq_false c1,eq_false c2,eq_true c3])
   ·rw[if_neg c3]at hF
    cases hF;simp only[simprocAttr,R0,b67,h_0,eq_false c1,eq_false c2,eq_false c3];exact fin_ret (by simp only[simprocAttr,R0,fn_out,p67,Rs.ev,take_len_self,h_0,eq_false c1,eq_false c2,eq_false c3])
def F87(a0:List (List (List Int))):Option Int:=
 some (a0.length:Int)
theorem s87(a0:List (List (List Int))){r:Int}(hF:F87 a0=some r):ans A 87 [V.isl (a0.map Enc.enc)]=some (Enc.enc r):=by
 refine ans_of (f:=p87) rfl rfl rfl fun e hl he=>?_;have h0_0:e.at 0=V.isl (a0.map Enc.enc):=he 0 _ rfl;have hl_0:e.length=5:=hl;clear he hl;show W A b87 e ⟨[],0⟩ _;unfold F87 at hF;cases hF;simp only[simprocAttr,R0,b87,hl_0,h0_0];exact fin_ret (by simp only[simprocAttr,R0,fn_out,p87,Rs.ev,take_len_self,hl_0,h0_0])
def F88(a0:Int):Option Bool:=
 (F56 a0 0 8).bind fun x1=>
 some (!x1)
theorem s88(a0:Int){r:Bool}(hF:F88 a0=some r):ans A 88 [V.int .i64 a0]=some (Enc.enc r):=by
 refine ans_of (f:=p88) rfl rfl rfl fun e hl he=>?_;have h0_0:e.at 0=V.int .i64 a0:=he 0 _ rfl;have hl_0:e.length=6:=hl;clear he hl;show W A b88 e ⟨[],0⟩ _;unfold F88 at hF;obtain⟨x1,gx1,hF⟩:=bS hF;have w2:ans A 56 [V.int .i64 a0,V.int .i64 0,V.int .i64 8]=some (V.bool x1):=s56 a0 0 8 gx1;cases hF;simp only[simprocAttr,R0,b88,hl_0,h0_0,w2];exact fin_ret (by simp only[simprocAttr,R0,fn_out,p88,Rs.ev,take_len_self,hl_0,h0_0,w2])
def F89(a0:List (List Int)):Option Int:=
 some (a0.length:Int)
theorem s89(a0:List (List Int)){r:Int}(hF:F89 a0=some r):ans A 89 [V.isl (a0.map Enc.enc)]=some (Enc.enc r):=by
 refine ans_of (f:=p89) rfl rfl rfl fun e hl he=>?_;have h0_0:e.at 0=V.isl (a0.map Enc.enc):=he 0 _ rfl;have hl_0:e.length=5:=hl;clear he hl;show W A b89 e ⟨[],0⟩ _;unfold F89 at hF;cases hF;simp only[simprocAttr,R0,b89,hl_0,h0_0];exact fin_ret (by simp only[simprocAttr,R0,fn_out,p89,Rs.ev,take_len_self,hl_0,h0_0])
def F130(a0:Int)(d0:Int):Option Bool:=
 (chk (d0 - 1)).bind fun x1=>
 (F56 a0 0 x1).bind fun x2=>
 some (!x2)
theorem s130(a0:Int)(d0:Int){r:Bool}(hF:F130 a0 d0=some r):ans A 130 [V.int .i64 a0,V.iptr [V.int .i64 d0]]=some (Enc.enc r):=by
 refine ans_of (f:=p130) rfl rfl rfl fun e hl he=>?_;have h0_0:e.at 0=V.int .i64 a0:=he 0 _ rfl;have h1_0:e.at 1=V.iptr [V.int .i64 d0]:=he 1 _ rfl;have hl_0:e.length=9:=hl;clear he hl;show W A b130 e ⟨[],0⟩ _;unfold F130 at hF;obtain⟨x1,gx1,hF⟩:=bS hF;have wx1:=chk_w gx1;obtain⟨x2,gx2,hF⟩:=bS hF;have w3:ans A 56 [V.int .i64 a0,V.int .i64 0,V.int .i64 x1]=some (V.bool x2):=s56 a0 0 x1 gx2;cases hF;simp only[simprocAttr,R0,b130,hl_0,h0_0,h1_0,wx1,w3];exact fin_ret (by simp only[simprocAttr,R0,fn_out,p130,Rs.ev,take_len_self,hl_0,h0_0,h1_0,wx1,w3])
def F129(a0:Int)(a1:Int)(a2:List Int):Option Bool:=
 if(a2.length:Int)=a1 then
  (F82 a2 (fun x=> F130 x a0)).bind fun x4=>
  some (!x4)
 else
  some false
theorem s129(a0:Int)(a1:Int)(a2:List Int){r:Bool}(hF:F129 a0 a1 a2=some r):ans A 129 [V.int .i64 a0,V.int .i64 a1,V.isl (a2.map Enc.enc)]=some (Enc.enc r):=by
 refine ans_of (f:=p129) rfl rfl rfl fun e hl he=>?_;have h0_0:e.at 0=V.int .i64 a0:=he 0 _ rfl;have h1_0:e.at 1=V.int .i64 a1:=he 1 _ rfl;have h2_0:e.at 2=V.isl (a2.map Enc.enc):=he 2 _ rfl;have hl_0:e.length=17:=hl;clear he hl;have h_0:=ai hl_0 (ai h0_0 (ai h1_0 h2_0));show W A b129 e ⟨[],0⟩ _;unfold F129 at hF;have w2:ans A 73 [V.isl (a2.map Enc.enc)]=some (V.int .i64 (a2.length:Int)):=s73 a2 rfl;by_cases c3:(a2.length:Int)=a1
 ·rw[if_pos c3]at hF
  obtain⟨x4,gx4,hF⟩:=bS hF;have w5:ans A 82 [V.isl (a2.map Enc.enc),V.fn 130 [] [V.iptr [V.int .i64 a0]]]=some (V.bool x4):=s82 a2 (fun x=> F130 x a0) (Clo1.of (by intro h f; simp only[RZ,mapO]) (by intro h f; simp only[RZ,mapO]) (by intro f; simp only[RZ,RB]) (by intro f; simp only[RZ,RB]) (fun x _ hr=> s130 x a0 hr)) gx4;cases hF;simp only[simprocAttr,R0,b129,h_0,w2,eq_true c3,w5];exact fin_ret (by simp only[simprocAttr,R0,fn_out,p129,Rs.ev,take_len_self,h_0,w2,eq_true c3,w5])
 ·rw[if_neg c3]at hF
  cases hF;simp only[simprocAttr,R0,b129,h_0,w2,eq_false c3];exact fin_ret (by simp only[simprocAttr,R0,fn_out,p129,Rs.ev,take_len_self,h_0,w2,eq_false c3])
def F116(a0:List Int)(d0:Int)(d1:Int):Option Bool:=
 (F129 d0 d1 a0).bind fun x1=>
 some (!x1)
theorem s116(a0:List Int)(d0:Int)(d1:Int){r:Bool}(hF:F116 a0 d0 d1=some r):ans A 116 [V.isl (a0.map Enc.enc),V.iptr [V.int .i64 d0],V.iptr [V.int .i64 d1]]=some (Enc.enc r):=by
 refine ans_of (f:=p116) rfl rfl rfl fun e hl he=>?_;have h0_0:e.at 0=V.isl (a0.map Enc.enc):=he 0 _ rfl;have h1_0:e.at 1=V.iptr [V.int .i64 d0]:=he 1 _ rfl;have h2_0:e.at 2=V.iptr [V.int .i64 d1]:=he 2 _ rfl;have hl_0:e.length=10:=hl;clear he hl;show W A b116 e ⟨[],0⟩ _;unfold F116 at hF;obtain⟨x1,gx1,hF⟩:=bS hF;have w2:ans A 129 [V.int .i64 d0,V.int .i64 d1,V.isl (a0.map Enc.enc)]=some (V.bool x1):=s129 d0 d1 a0 gx1;cases hF;simp only[simprocAttr,R0,b116,hl_0,h0_0,h1_0,h2_0,w2];exact fin_ret (by simp only[simprocAttr,R0,fn_out,p116,Rs.ev,take_len_self,hl_0,h0_0,h1_0,h2_0,w2])
def F117(a0:List (List Int))(f1:(List Int)→Option Bool):Option Bool:=
 (F128 a0 f1).bind fun x1=>
 some (decide (0≤x1))
theorem s117(a0:List (List Int))(f1:(List Int)→Option Bool){vf1:V}(hf1:Clo1 A vf1 f1){r:Bool}(hF:F117 a0 f1=some r):ans A 117 [V.isl (a0.map Enc.enc),vf1]=some (Enc.enc r):=by
 refine ans_of (f:=p117) rfl rfl rfl fun e hl he=>?_;have h0_0:e.at 0=V.isl (a0.map Enc.enc):=he 0 _ rfl;have h1_0:e.at 1=vf1:=he 1 _ rfl;obtain⟨g_f1,fs_f1,cs_f1,hv_f1,hc_f1⟩:=id hf1;have hl_0:e.length=9:=hl;clear he hl;show W A b117 e ⟨[],0⟩ _;unfold F117 at hF;obtain⟨x1,gx1,hF⟩:=bS hF;have w2:ans A 128 [V.isl (a0.map Enc.enc),vf1]=some (V.int .i64 x1):=s128 a0 f1 hf1 gx1;cases hF;simp only[simprocAttr,R0,b117,hl_0,h0_0,h1_0,hf1.fz,hf1.rl,w2];exact fin_ret (by simp only[simprocAttr,R0,fn_out,p117,Rs.ev,take_len_self,hl_0,h0_0,h1_0,hf1.fz,hf1.rl,w2])
def F90(a0:Int)(a1:Int)(a2:List (List Int)):Option Bool:=
 (F117 a2 (fun x=> F116 x a0 a1)).bind fun x1=>
 some (!x1)
theorem s90(a0:Int)(a1:Int)(a2:List (List Int)){r:Bool}(hF:F90 a0 a1 a2=some r):ans A 90 [V.int .i64 a0,V.int .i64 a1,V.isl (a2.map Enc.enc)]=some (Enc.enc r):=by
 refine ans_of (f:=p90) rfl rfl rfl fun e hl he=>?_;have h0_0:e.at 0=V.int .i64 a0:=he 0 _ rfl;have h1_0:e.at 1=V.int .i64 a1:=he 1 _ rfl;have h2_0:e.at 2=V.isl (a2.map Enc.enc):=he 2 _ rfl;have hl_0:e.length=11:=hl;clear he hl;show W A b90 e ⟨[],0⟩ _;unfold F90 at hF;obtain⟨x1,gx1,hF⟩:=bS hF;have w2:ans A 117 [V.isl (a2.map Enc.enc),V.fn 116 [] [V.iptr [V.int .i64 a0],V.iptr [V.int .i64 a1]]]=some (V.bool x1):=s117 a2 (fun x=> F116 x a0 a1) (Clo1.of (by intro h f; simp only[RZ,mapO]) (by intro h f; simp only[RZ,mapO]) (by intro f; simp only[RZ,RB]) (by intro f; simp only[RZ,RB]) (fun x _ hr=> s116 x a0 a1 hr)) gx1;cases hF;simp only[simprocAttr,R0,b90,hl_0,h0_0,h1_0,h2_0,w2];exact fin_ret (by simp only[simprocAttr,R0,fn_out,p90,Rs.ev,take_len_self,hl_0,h0_0,h1_0,h2_0,w2])
def F119_2_B(a0:Int)(a2:List Int)(a3:List (List Int))(v18_1:Int)(x7:Int)(x9:List Int)(v28_2:Int)(o0_2:(List Int)):Option (((List Int))⊕((List Int))):=
 (getI x9 v28_2).bind fun x15=>
(getI o0_2 v28_2).bind fun x17=>
(chk (x7*x15)).bind fun x19=>
(chk (x17+x19)).bind fun x20=>
(remI x20 a0).bind fun x21=>
(setI o0_2 v28_2 x21).bind fun l23=>
some (.inl l23)
def F119_2_D(a0:Int)(a2:List Int)(a3:List (List Int))(v18_1:Int)(x7:Int)(x9:List Int)(v28_2:Int)(o0_2:(List Int)):Option ((List Int)):=
 some o0_2
def F119_1_B(a0:Int)(a2:List Int)(a3:List (List Int))(v18_1:Int)(o0_1:(List Int)):Option (((List Int))⊕((List Int))):=
 (getI a2 v18_1).bind fun x7=>
(getI a3 v18_1).bind fun x9=>
(forR 0 (x9.length:Int) (F119_2_B a0 a2 a3 v18_1 x7 x9) (F119_2_D a0 a2 a3 v18_1 x7 x9) o0_1).bind fun zo0_2=>
some (.inl zo0_2)
def F119_1_D(a0:Int)(a2:List Int)(a3:List (List Int))(v18_1:Int)(o0_1:(List Int)):Option ((List Int)):=
 some o0_1
def F119(a0:Int)(a1:Int)(a2:List Int)(a3:List (List Int)):Option (List Int):=
 (mkL 8 a1 0).bind fun l1=>
 (forR 0 (a2.length:Int) (F119_1_B a0 a2 a3) (F119_1_D a0 a2 a3) l1).bind fun zo0_1=>
 some zo0_1
def I119_2(a0:Int)(a2:List Int)(a3:List (List Int))(v18_1:Int)(x7:Int)(x9:List Int)(v28_2:Int)(o0_2:(List Int))(e:Env)(h:Heap):Prop:=
 ∃u12 k13:Nat,h=⟨[(u12,some (o0_2.map Enc.enc))],k13⟩∧e.length=49∧e.at 0=V.int .i64 a0∧e.at 3=V.isl (a3.map Enc.enc)∧e.at 9=V.sl 0 u12 0 o0_2.length 1∧e.at 11=V.int .i64 x7∧e.at 16=V.isl (a2.map Enc.enc)∧e.at 17=V.int .i64 (a2.length:Int)∧e.at 18=V.int .i64 v18_1∧e.at 26=V.isl (x9.map Enc.enc)∧e.at 27=V.int .i64 (x9.length:Int)∧e.at 28=V.int .i64 v28_2
def P119_2(a0:Int)(a2:List Int)(a3:List (List Int))(v18_1:Int)(x7:Int)(x9:List Int)(zo0_2:(List Int))(x:Ex)(e:Env)(h:Heap):Prop:=
 x= .normal∧∃u12 k13:Nat,h=⟨[(u12,some (zo0_2.map Enc.enc))],k13⟩∧e.length=49∧e.at 0=V.int .i64 a0∧e.at 3=V.isl (a3.map Enc.enc)∧e.at 9=V.sl 0 u12 0 zo0_2.length 1∧e.at 16=V.isl (a2.map Enc.enc)∧e.at 17=V.int .i64 (a2.length:Int)∧e.at 18=V.int .i64 v18_1
theorem l119_2(a0:Int)(a2:List Int)(a3:List (List Int))(v18_1:Int)(x7:Int)(x9:List Int){lo:Int}{s:(List Int)}{t:(List Int)}(hF:forR lo (x9.length:Int) (F119_2_B a0 a2 a3 v18_1 x7 x9) (F119_2_D a0 a2 a3 v18_1 x7 x9) s=some t){e:Env}{h:Heap}(hI:I119_2 a0 a2 a3 v18_1 x7 x9 lo s e h):W A c119_2 e h (P119_2 a0 a2 a3 v18_1 x7 x9 t):=by
 show W A (.block 2 (.loop false b119_2)) e h _;rw[W_block];refine W_forR hF 1 (by obtain⟨_,_,rfl,_⟩:=hI; rfl) (I119_2 a0 a2 a3 v18_1 x7 x9) hI ?_ ?_
 ·rintro v28_2 o0_2 e h ⟨u12,k13,rfl,h_11⟩ hlt hw o ho
  unfold F119_2_B at ho;obtain⟨x15,gx15,ho⟩:=bS ho;obtain⟨w16a,w16b⟩:=getI_w gx15;obtain⟨x17,gx17,ho⟩:=bS ho;obtain⟨w18a,w18b⟩:=getI_w gx17;have w18c:=getI_lt gx17;have w18d:List.drop (Int.toNat v28_2) (o0_2.map Enc.enc)=(V.int .i64 x17)::List.drop ((Int.toNat v28_2)+1) (o0_2.map Enc.enc):=drop_enc w18b;obtain⟨x19,gx19,ho⟩:=bS ho;have wx19:=chk_w gx19;obtain⟨x20,gx20,ho⟩:=bS ho;have wx20:=chk_w gx20;obtain⟨x21,gx21,ho⟩:=bS ho;obtain⟨w22a,w22b⟩:=rem_w gx21;obtain⟨l23,gl23,ho⟩:=bS ho;obtain⟨w24a,w24b,w24c,w24d,w24e⟩:=setI_w gl23;replace w24e:List.take (Int.toNat v28_2) (o0_2.map Enc.enc)++[V.int .i64 x21]++List.drop (Int.toNat v28_2+1) (o0_2.map Enc.enc)=List.map Enc.enc l23:=w24e;cases ho;simp only[simprocAttr,R0,b119_2,h_11,eq_true hlt,hw,w16a,w16b,w18a,w18b,w18c,w18d,wx19,wx20,eq_false w22a,w22b,w24a,w24b,w24c,w24e];refine ai rfl (ei _ (ei _ (ai rfl ?_)));simp only[simprocAttr,R0,h_11,eq_true hlt,hw,w16a,w16b,w18a,w18b,w18c,w18d,wx19,wx20,eq_false w22a,w22b,w24a,w24b,w24c,w24e,w24d]
 ·rintro v28_2 o0_2 e h ⟨u12,k13,rfl,h_11⟩ hge t1 ho
  unfold F119_2_D at ho;cases ho;simp only[simprocAttr,R0,b119_2,h_11,eq_false hge];intro ht; subst ht;refine ai rfl (ei _ (ei _ (ai rfl ?_)));simp only[simprocAttr,R0,h_11,eq_false hge]
def I119_1(a0:Int)(a2:List Int)(a3:List (List Int))(v18_1:Int)(o0_1:(List Int))(e:Env)(h:Heap):Prop:=
 ∃u4 k5:Nat,h=⟨[(u4,some (o0_1.map Enc.enc))],k5⟩∧e.length=49∧e.at 0=V.int .i64 a0∧e.at 3=V.isl (a3.map Enc.enc)∧e.at 9=V.sl 0 u4 0 o0_1.length 1∧e.at 16=V.isl (a2.map Enc.enc)∧e.at 17=V.int .i64 (a2.length:Int)∧e.at 18=V.int .i64 v18_1
def P119_1(a0:Int)(a2:List Int)(a3:List (List Int))(zo0_1:(List Int))(x:Ex)(e:Env)(h:Heap):Prop:=
 x= .normal∧∃u4 k5:Nat,h=⟨[(u4,some (zo0_1.map Enc.enc))],k5⟩∧e.length=49∧e.at 9=V.sl 0 u4 0 zo0_1.length 1
theorem l119_1(a0:Int)(a2:List Int)(a3:List (List Int)){lo:Int}{s:(List Int)}{t:(List Int)}(hF:forR lo (a2.length:Int) (F119_1_B a0 a2 a3) (F119_1_D a0 a2 a3) s=some t){e:Env}{h:Heap}(hI:I119_1 a0 a2 a3 lo s e h):W A c119_1 e h (P119_1 a0 a2 a3 t):=by
 show W A (.block 0 (.loop false b119_1)) e h _;rw[W_block];refine W_forR hF 1 (by obtain⟨_,_,rfl,_⟩:=hI; rfl) (I119_1 a0 a2 a3) hI ?_ ?_
 ·rintro v18_1 o0_1 e h ⟨u4,k5,rfl,h_3⟩ hlt hw o ho
  unfold F119_1_B at ho;obtain⟨x7,gx7,ho⟩:=bS ho;obtain⟨w8a,w8b⟩:=getI_w gx7;obtain⟨x9,gx9,ho⟩:=bS ho;obtain⟨w10a,w10b⟩:=getI_w gx9;obtain⟨zo0_2,gt25,ho⟩:=bS ho;simp only[simprocAttr,R0,b119_1,h_3,eq_true hlt,hw,w8a,w8b,w10a,w10b];refine W.mono (l119_2 a0 a2 a3 v18_1 x7 x9 gt25 (ei _ (ei _ (ai rfl ?_)))) ?_
  ·simp only[simprocAttr,R0,h_3,eq_true hlt,hw,w8a,w8b,w10a,w10b]
  rintro _ e _ ⟨rfl,u12,k13,rfl,h_14⟩;cases ho;simp only[simprocAttr,R0,h_14,eq_true hlt,hw];refine ai rfl (ei _ (ei _ (ai rfl ?_)));simp only[simprocAttr,R0,h_14,eq_true hlt,hw]
 ·rintro v18_1 o0_1 e h ⟨u4,k5,rfl,h_3⟩ hge t1 ho
  unfold F119_1_D at ho;cases ho;simp only[simprocAttr,R0,b119_1,h_3,eq_false hge];intro ht; subst ht;refine ai rfl (ei _ (ei _ (ai rfl ?_)));simp only[simprocAttr,R0,h_3,eq_false hge]
theorem s119(a0:Int)(a1:Int)(a2:List Int)(a3:List (List Int)){r:List Int}(hF:F119 a0 a1 a2 a3=some r):ans A 119 [V.int .i64 a0,V.int .i64 a1,V.isl (a2.map Enc.enc),V.isl (a3.map Enc.enc)]=some (Enc.enc r):=by
 refine ans_of (f:=p119) rfl rfl rfl fun e hl he=>?_;have h0_0:e.at 0=V.int .i64 a0:=he 0 _ rfl;have h1_0:e.at 1=V.int .i64 a1:=he 1 _ rfl;have h2_0:e.at 2=V.isl (a2.map Enc.enc):=he 2 _ rfl;have h3_0:e.at 3=V.isl (a3.map Enc.enc):=he 3 _ rfl;have hl_0:e.length=49:=hl;clear he hl;show W A b119 e ⟨[],0⟩ _;unfold F119 at hF;obtain⟨l1,gl1,hF⟩:=bS hF;obtain⟨w2a,w2b,w2c,w2d,w2e⟩:=mkL_w gl1;replace w2e:(List.replicate (Int.toNat a1) [V.int .i64 0]).flatten=List.map Enc.enc l1:=w2e;obtain⟨zo0_1,gt26,hF⟩:=bS hF;simp only[simprocAttr, -Int.reduceNatCast',R0,b119,hl_0,h0_0,h1_0,h2_0,h3_0,w2a,w2b,w2c,w2e];refine W.mono (l119_1 a0 a2 a3 gt26 (ei _ (ei _ (ai rfl ?_)))) ?_
 ·simp only[simprocAttr, -Int.reduceNatCast',R0,hl_0,h0_0,h1_0,h2_0,h3_0,w2a,w2b,w2c,w2e,w2d]
 rintro _ e _ ⟨rfl,u4,k5,rfl,hl_6,h9_6⟩;have hE:=Option.some.inj hF; subst hE;simp only[simprocAttr, -Int.reduceNatCast',R0,hl_6,h9_6];exact fin_ret (by simp only[simprocAttr, -Int.reduceNatCast',R0,fn_out,p119,Rs.ev,take_len_self,hl_6,h9_6,frzs (α:=Int) zo0_1,takes (α:=Int) zo0_1])
def F91(a0:GComplex)(a1:Int)(a2:List Int):Option (List Int):=
 if a1≤0 then
  some ([]:List Int)
 else
  (F86 a0).bind fun x2=>
  if x2 < a1 then
   some ([]:List Int)
  else
   (chk (a1 - 1)).bind fun x5=>
   (getI a0.Dims x5).bind fun x6=>
   (getI a0.Maps x5).bind fun x8=>
   (F119 a0.Prime x6 a2 x8).bind fun x10=>
   some x10
theorem s91(a0:GComplex)(a1:Int)(a2:List Int){r:List Int}(hF:F91 a0 a1 a2=some r):ans A 91 [(eC a0),V.int .i64 a1,V.isl (a2.map Enc.enc)]=some (Enc.enc r):=by
 refine ans_of (f:=p91) rfl rfl rfl fun e hl he=>?_;have h0_0:e.at 0=(eC a0):=he 0 _ rfl;have h1_0:e.at 1=V.int .i64 a1:=he 1 _ rfl;have h2_0:e.at 2=V.isl (a2.map Enc.enc):=he 2 _ rfl;have hl_0:e.length=31:=hl;clear he hl;have h_0:=ai hl_0 (ai h0_0 (ai h1_0 h2_0));show W A b91 e ⟨[],0⟩ _;unfold F91 at hF;by_cases c1:a1≤0
 ·rw[if_pos c1]at hF
  cases hF;simp only[simprocAttr,R0,b91,h_0,eq_true c1];exact fin_ret (by simp only[simprocAttr,R0,fn_out,p91,Rs.ev,take_len_self,h_0,eq_true c1])
 ·rw[if_neg c1]at hF
  obtain⟨x2,gx2,hF⟩:=bS hF;have w3:ans A 86 [(eC a0)]=some (V.int .i64 x2):=s86 a0 gx2;by_cases c4:x2 < a1
  ·rw[if_pos c4]at hF
   cases hF;simp only[simprocAttr,R0,b91,h_0,eq_false c1,w3,eq_true c4];exact fin_ret (by simp only[simprocAttr,R0,fn_out,p91,Rs.ev,take_len_self,h_0,eq_false c1,w3,eq_true c4])
  ·rw[if_neg c4]at hF
   obtain⟨x5,gx5,hF⟩:=bS hF;have wx5:=chk_w gx5;obtain⟨x6,gx6,hF⟩:=bS hF;obtain⟨w7a,w7b⟩:=getI_w gx6;obtain⟨x8,gx8,hF⟩:=bS hF;obtain⟨w9a,w9b⟩:=getI_w gx8;obtain⟨x10,gx10,hF⟩:=bS hF;have w11:ans A 119 [V.int .i64 a0.Prime,V.int .i64 x6,V.isl (a2.map Enc.enc),V.isl (x8.map Enc.enc)]=some (V.isl (x10.map Enc.enc)):=s119 a0.Prime x6 a2 x8 gx10;cases hF;simp only[simprocAttr,R0,b91,h_0,eq_false c1,w3,eq_false c4,wx5,w7a,w7b,w9a,w9b,w11];exact fin_ret (by simp only[simprocAttr,R0,fn_out,p91,Rs.ev,take_len_self,h_0,eq_false c1,w3,eq_false c4,wx5,w7a,w7b,w9a,w9b,w11])
def F42_1_B(a0:GComplex)(v34_1:Int)(s:Unit):Option ((Unit)⊕((Unit)⊕Bool)):=
 (getI a0.Maps v34_1).bind fun x15=>
(getI a0.Dims (v34_1+1)).bind fun x19=>
if(x15.length:Int)=x19 then
 (getI a0.Dims v34_1).bind fun x22=>
 (F90 a0.Prime x22 x15).bind fun x24=>
 if x24=true then
  some (.inl ())
 else
  some (.inr (.inr false))
else
 some (.inr (.inr false))
def F42_1_D(a0:GComplex)(v34_1:Int)(s:Unit):Option ((Unit)⊕Bool):=
 some (.inl ())
def F42_3_B(a0:GComplex)(v5_2:Int)(x34:List (List Int))(v74_3:Int)(s:Unit):Option ((Unit)⊕((Unit)⊕Bool)):=
 (getI x34 v74_3).bind fun x39=>
(chk (v5_2 - 1)).bind fun x41=>
(F91 a0 x41 x39).bind fun x42=>
(F92 x42).bind fun x44=>
if x44=true then
 some (.inl ())
else
 some (.inr (.inr false))
def F42_3_D(a0:GComplex)(v5_2:Int)(x34:List (List Int))(v74_3:Int)(s:Unit):Option ((Unit)⊕Bool):=
 some (.inl ())
def F42_2_S(a0:GComplex)(v5_2:Int):Option ((Int)⊕((Unit)⊕Bool)):=
 (F86 a0).bind fun x30=>
if v5_2≤x30 then
 (chk (v5_2 - 1)).bind fun x33=>
 (getI a0.Maps x33).bind fun x34=>
 (forR 0 (x34.length:Int) (F42_3_B a0 v5_2 x34) (F42_3_D a0 v5_2 x34) ()).bind fun t46=> match t46 with
  | .inl _=>
   (chk (v5_2+1)).bind fun x47=>
   some (.inl x47)
  | .inr r48=> some (.inr (.inr r48))
else
 some (.inr (.inl ()))
def F42(a0:GComplex):Option Bool:=
 (F67 a0.Prime).bind fun x1=>
 if x1=true then
  (F86 a0).bind fun x3=>
  (F56 x3 0 5).bind fun x5=>
  if x5=true then
   if(a0.Maps.length:Int)=x3 then
    (F82 a0.Dims (fun x=> F88 x)).bind fun x10=>
    if x10=true then
     some false
    else
     (forR 0 (a0.Maps.length:Int) (F42_1_B a0) (F42_1_D a0) ()).bind fun t26=> match t26 with
      | .inl _=>
       (loopW (F42_2_S a0) 2).bind fun t49=> match t49 with
        | .inl _=>
         some true
        | .inr r50=> some r50
      | .inr r51=> some r51
   else
    some false
  else
   some false
 else
  some false
def I42_1(a0:GComplex)(v34_1:Int)(s:Unit)(e:Env)(h:Heap):Prop:=
 ∃k13:Nat,h=⟨[(0,none)],k13⟩∧e.length=86∧e.at 1=V.iptr [V.int .i64 a0.Prime,V.isl (a0.Dims.map Enc.enc),V.isl (a0.Maps.map Enc.enc)]∧e.at 32=V.isl (a0.Maps.map Enc.enc)∧e.at 33=V.int .i64 (a0.Maps.length:Int)∧e.at 34=V.int .i64 v34_1
def P42_1(a0:GComplex)(t:(Unit)⊕Bool)(x:Ex)(e:Env)(h:Heap):Prop:=
 match t with
 | .inl _=> x= .normal∧∃k13:Nat,h=⟨[(0,none)],k13⟩∧e.length=86∧e.at 1=V.iptr [V.int .i64 a0.Prime,V.isl (a0.Dims.map Enc.enc),V.isl (a0.Maps.map Enc.enc)]
 | .inr r=> x= .ret∧Fin p42 (Enc.enc r) .ret e h
theorem l42_1(a0:GComplex){lo:Int}{s:Unit}{t:(Unit)⊕Bool}(hF:forR lo (a0.Maps.length:Int) (F42_1_B a0) (F42_1_D a0) s=some t){e:Env}{h:Heap}(hI:I42_1 a0 lo s e h):W A c42_1 e h (P42_1 a0 t):=by
 show W A (.block 0 (.loop false b42_1)) e h _;rw[W_block];refine W_forR hF 1 (by obtain⟨_,rfl,_⟩:=hI; rfl) (I42_1 a0) hI ?_ ?_
 ·rintro v34_1 _ e h ⟨k13,rfl,h_12⟩ hlt hw o ho
  unfold F42_1_B at ho;obtain⟨x15,gx15,ho⟩:=bS ho;obtain⟨w16a,w16b⟩:=getI_w gx15;have w18:ans A 89 [V.isl (x15.map Enc.enc)]=some (V.int .i64 (x15.length:Int)):=s89 x15 rfl;obtain⟨x19,gx19,ho⟩:=bS ho;obtain⟨w20a,w20b⟩:=getI_w gx19;by_cases c21:(x15.length:Int)=x19
  ·rw[if_pos c21]at ho
   obtain⟨x22,gx22,ho⟩:=bS ho;obtain⟨w23a,w23b⟩:=getI_w gx22;obtain⟨x24,gx24,ho⟩:=bS ho;have w25:ans A 90 [V.int .i64 a0.Prime,V.int .i64 x22,V.isl (x15.map Enc.enc)]=some (V.bool x24):=s90 a0.Prime x22 x15 gx24;cases x24 with
   |true=>
    rw[if_pos rfl]at ho;cases ho;simp only[simprocAttr,R0,b42_1,h_12,eq_true hlt,hw,w16a,w16b,w18,w20a,w20b,eq_true c21,w23a,w23b,w25];refine ai rfl (ei _ (ai rfl ?_));simp only[simprocAttr,R0,h_12,eq_true hlt,hw,w16a,w16b,w18,w20a,w20b,eq_true c21,w23a,w23b,w25]
   |false=>
    rw[if_neg Bool.false_ne_true]at ho;cases ho;simp only[simprocAttr,R0,b42_1,h_12,eq_true hlt,hw,w16a,w16b,w18,w20a,w20b,eq_true c21,w23a,w23b,w25];intro ht; subst ht;simp only[simprocAttr,RR,RB];exact ai rfl (fin_ret (by simp only[simprocAttr,R0,fn_out,p42,Rs.ev,take_len_self,h_12,eq_true hlt,hw,w16a,w16b,w18,w20a,w20b,eq_true c21,w23a,w23b,w25]))
  ·rw[if_neg c21]at ho
   cases ho;simp only[simprocAttr,R0,b42_1,h_12,eq_true hlt,hw,w16a,w16b,w18,w20a,w20b,eq_false c21];intro ht; subst ht;simp only[simprocAttr,RR,RB];exact ai rfl (fin_ret (by simp only[simprocAttr,R0,fn_out,p42,Rs.ev,take_len_self,h_12,eq_true hlt,hw,w16a,w16b,w18,w20a,w20b,eq_false c21]))
 ·rintro v34_1 _ e h ⟨k13,rfl,h_12⟩ hge t1 ho
  unfold F42_1_D at ho;cases ho;simp only[simprocAttr,R0,b42_1,h_12,eq_false hge];intro ht; subst ht;refine ai rfl (ei _ (ai rfl ?_));simp only[simprocAttr,R0,h_12,eq_false hge]
def I42_3(a0:GComplex)(v5_2:Int)(x34:List (List Int))(v74_3:Int)(s:Unit)(e:Env)(h:Heap):Prop:=
 ∃k37:Nat,h=⟨[(0,none)],k37⟩∧e.length=86∧e.at 1=V.iptr [V.int .i64 a0.Prime,V.isl (a0.Dims.map Enc.enc),V.isl (a0.Maps.map Enc.enc)]∧e.at 5=V.int .i64 v5_2∧e.at 72=V.isl (x34.map Enc.enc)∧e.at 73=V.int .i64 (x34.length:Int)∧e.at 74=V.int .i64 v74_3
def P42_3(a0:GComplex)(v5_2:Int)(x34:List (List Int))(t:(Unit)⊕Bool)(x:Ex)(e:Env)(h:Heap):Prop:=
 match t with
 | .inl _=> x= .normal∧∃k37:Nat,h=⟨[(0,none)],k37⟩∧e.length=86∧e.at 1=V.iptr [V.int .i64 a0.Prime,V.isl (a0.Dims.map Enc.enc),V.isl (a0.Maps.map Enc.enc)]∧e.at 5=V.int .i64 v5_2
 | .inr r=> x= .ret∧Fin p42 (Enc.enc r) .ret e h
theorem l42_3(a0:GComplex)(v5_2:Int)(x34:List (List Int)){lo:Int}{s:Unit}{t:(Unit)⊕Bool}(hF:forR lo (x34.length:Int) (F42_3_B a0 v5_2 x34) (F42_3_D a0 v5_2 x34) s=some t){e:Env}{h:Heap}(hI:I42_3 a0 v5_2 x34 lo s e h):W A c42_3 e h (P42_3 a0 v5_2 x34 t):=by
 show W A (.block 4 (.loop false b42_3)) e h _;rw[W_block];refine W_forR hF 1 (by obtain⟨_,rfl,_⟩:=hI; rfl) (I42_3 a0 v5_2 x34) hI ?_ ?_
 ·rintro v74_3 _ e h ⟨k37,rfl,h_36⟩ hlt hw o ho
  unfold F42_3_B at ho;obtain⟨x39,gx39,ho⟩:=bS ho;obtain⟨w40a,w40b⟩:=getI_w gx39;obtain⟨x41,gx41,ho⟩:=bS ho;have wx41:=chk_w gx41;obtain⟨x42,gx42,ho⟩:=bS ho;have w43:ans A 91 [(eC a0),V.int .i64 x41,V.isl (x39.map Enc.enc)]=some (V.isl (x42.map Enc.enc)):=s91 a0 x41 x39 gx42;obtain⟨x44,gx44,ho⟩:=bS ho;have w45:ans A 92 [V.isl (x42.map Enc.enc)]=some (V.bool x44):=s92 x42 gx44;cases x44 with
  |true=>
   rw[if_pos rfl]at ho;cases ho;simp only[simprocAttr,R0,b42_3,h_36,eq_true hlt,hw,w40a,w40b,wx41,w43,w45];refine ai rfl (ei _ (ai rfl ?_));simp only[simprocAttr,R0,h_36,eq_true hlt,hw,w40a,w40b,wx41,w43,w45]
  |false=>
   rw[if_neg Bool.false_ne_true]at ho;cases ho;simp only[simprocAttr,R0,b42_3,h_36,eq_true hlt,hw,w40a,w40b,wx41,w43,w45];intro ht; subst ht;simp only[simprocAttr,RR,RB];exact ai rfl (fin_ret (by simp only[simprocAttr,R0,fn_out,p42,Rs.ev,take_len_self,h_36,eq_true hlt,hw,w40a,w40b,wx41,w43,w45]))
 ·rintro v74_3 _ e h ⟨k37,rfl,h_36⟩ hge t1 ho
  unfold F42_3_D at ho;cases ho;simp only[simprocAttr,R0,b42_3,h_36,eq_false hge];intro ht; subst ht;refine ai rfl (ei _ (ai rfl ?_));simp only[simprocAttr,R0,h_36,eq_false hge]
def I42_2(a0:GComplex)(v5_2:Int)(e:Env)(h:Heap):Prop:=
 ∃k28:Nat,h=⟨[(0,none)],k28⟩∧e.length=86∧e.at 1=V.iptr [V.int .i64 a0.Prime,V.isl (a0.Dims.map Enc.enc),V.isl (a0.Maps.map Enc.enc)]∧e.at 5=V.int .i64 v5_2
def P42_2(a0:GComplex)(t:(Unit)⊕Bool)(x:Ex)(e:Env)(h:Heap):Prop:=
 match t with
 | .inl _=> x= .normal∧∃k28:Nat,h=⟨[(0,none)],k28⟩∧e.length=86
 | .inr r=> x= .ret∧Fin p42 (Enc.enc r) .ret e h
theorem l42_2(a0:GComplex){s:Int}{t:(Unit)⊕Bool}(hF:loopW (F42_2_S a0) s=some t){e:Env}{h:Heap}(hI:I42_2 a0 s e h):W A c42_2 e h (P42_2 a0 t):=by
 show W A (.block 2 (.loop false b42_2)) e h _;rw[W_block];refine W_loop hF 1 (by obtain⟨_,rfl,_⟩:=hI; rfl) (I42_2 a0) hI ?_
 ·rintro v5_2 e h ⟨k28,rfl,h_27⟩ o ho
  unfold F42_2_S at ho;obtain⟨x30,gx30,ho⟩:=bS ho;have w31:ans A 86 [(eC a0)]=some (V.int .i64 x30):=s86 a0 gx30;by_cases c32:v5_2≤x30
  ·rw[if_pos c32]at ho
   obtain⟨x33,gx33,ho⟩:=bS ho;have wx33:=chk_w gx33;obtain⟨x34,gx34,ho⟩:=bS ho;obtain⟨w35a,w35b⟩:=getI_w gx34;obtain⟨t46,gt46,ho⟩:=bS ho;rcases t46 with _|r48
   ·dsimp only at ho
    simp only[simprocAttr,R0,b42_2,h_27,w31,eq_true c32,wx33,w35a,w35b];refine W.mono (l42_3 a0 v5_2 x34 gt46 (ei _ (ai rfl ?_))) ?_
    ·simp only[simprocAttr,R0,h_27,w31,eq_true c32,wx33,w35a,w35b]
    rintro _ e _ ⟨rfl,k37,rfl,h_38⟩;obtain⟨x47,gx47,ho⟩:=bS ho;have wx47:=chk_w gx47;cases ho;simp only[simprocAttr,R0,h_38,eq_true c32,wx47];refine ai rfl (ei _ (ai rfl ?_));simp only[simprocAttr,R0,h_38,eq_true c32,wx47]
   ·dsimp only at ho
    cases ho;simp only[simprocAttr,R0,b42_2,h_27,w31,eq_true c32,wx33,w35a,w35b];refine W.mono (l42_3 a0 v5_2 x34 gt46 (ei _ (ai rfl ?_))) ?_
    ·simp only[simprocAttr,R0,h_27,w31,eq_true c32,wx33,w35a,w35b]
    rintro _ e h ⟨rfl,hq⟩;simp only[simprocAttr,RR,RB];intro ht; subst ht;simp only[simprocAttr,RR,RB];exact ai rfl hq
  ·rw[if_neg c32]at ho
   cases ho;simp only[simprocAttr,R0,b42_2,h_27,w31,eq_false c32];intro ht; subst ht;simp only[simprocAttr,RR,RB];refine ai rfl (ei _ (ai rfl ?_));simp only[simprocAttr,R0,h_27,w31,eq_false c32]
theorem s42(a0:GComplex){r:Bool}(hF:F42 a0=some r):ans A 42 [(eC a0)]=some (Enc.enc r):=by
 refine ans_of (f:=p42) rfl rfl rfl fun e hl he=>?_;have h0_0:e.at 0=(eC a0):=he 0 _ rfl;have hl_0:e.length=86:=hl;clear he hl;have h_0:=ai hl_0 h0_0;show W A b42 e ⟨[],0⟩ _;unfold F42 at hF;obtain⟨x1,gx1,hF⟩:=bS hF;have w2:ans A 67 [V.int .i64 a0.Prime]=some (V.bool x1):=s67 a0.Prime gx1;cases x1 with
 |true=>
  rw[if_pos rfl]at hF;obtain⟨x3,gx3,hF⟩:=bS hF;have w4:ans A 86 [(eC a0)]=some (V.int .i64 x3):=s86 a0 gx3;obtain⟨x5,gx5,hF⟩:=bS hF;have w6:ans A 56 [V.int .i64 x3,V.int .i64 0,V.int .i64 5]=some (V.bool x5):=s56 x3 0 5 gx5;cases x5 with
  |true=>
   rw[if_pos rfl]at hF;have w8:ans A 87 [V.isl (a0.Maps.map Enc.enc)]=some (V.int .i64 (a0.Maps.length:Int)):=s87 a0.Maps rfl;by_cases c9:(a0.Maps.length:Int)=x3
   ·rw[if_pos c9]at hF
    obtain⟨x10,gx10,hF⟩:=bS hF;have w11:ans A 82 [V.isl (a0.Dims.map Enc.enc),V.fn 88 [] []]=some (V.bool x10):=s82 a0.Dims (fun x=> F88 x) (Clo1.of (by intro h f; simp only[RZ,mapO]) (by intro h f; simp only[RZ,mapO]) (by intro f; simp only[RZ,RB]) (by intro f; simp only[RZ,RB]) (fun x _ hr=> s88 x hr)) gx10;cases x10 with
    |true=>
     rw[if_pos rfl]at hF;cases hF;simp only[simprocAttr,R0,b42,h_0,w2,w4,w6,w8,eq_true c9,w11];exact fin_ret (by simp only[simprocAttr,R0,fn_out,p42,Rs.ev,take_len_self,h_0,w2,w4,w6,w8,eq_true c9,w11])
    |false=>
     rw[if_neg Bool.false_ne_true]at hF;obtain⟨t26,gt26,hF⟩:=bS hF;rcases t26 with _|r51
     ·dsimp only at hF
      simp only[simprocAttr,R0,b42,h_0,w2,w4,w6,w8,eq_true c9,w11];refine W.mono (l42_1 a0 gt26 (ei _ (ai rfl ?_))) ?_
      ·simp only[simprocAttr,R0,h_0,w2,w4,w6,w8,eq_true c9,w11]
      rintro _ e _ ⟨rfl,k13,rfl,h_14⟩;obtain⟨t49,gt49,hF⟩:=bS hF;rcases t49 with _|r50
      ·dsimp only at hF
       simp only[simprocAttr,R0,h_14,eq_true c9];refine W.mono (l42_2 a0 gt49 (ei _ (ai rfl ?_))) ?_
       ·simp only[simprocAttr,R0,h_14,eq_true c9]
       rintro _ e _ ⟨rfl,k28,rfl,hl_29⟩;cases hF;simp only[simprocAttr,R0,hl_29,eq_true c9];exact fin_ret (by simp only[simprocAttr,R0,fn_out,p42,Rs.ev,take_len_self,hl_29,eq_true c9])
      ·dsimp only at hF
       cases hF;simp only[simprocAttr,R0,h_14,eq_true c9];refine W.mono (l42_2 a0 gt49 (ei _ (ai rfl ?_))) ?_
       ·simp only[simprocAttr,R0,h_14,eq_true c9]
       rintro _ e h ⟨rfl,hq⟩;simp only[simprocAttr,RR,RB];exact hq
     ·dsimp only at hF
      cases hF;simp only[simprocAttr,R0,b42,h_0,w2,w4,w6,w8,eq_true c9,w11];refine W.mono (l42_1 a0 gt26 (ei _ (ai rfl ?_))) ?_
      ·simp only[simprocAttr,R0,h_0,w2,w4,w6,w8,eq_true c9,w11]
      rintro _ e h ⟨rfl,hq⟩;simp only[simprocAttr,RR,RB];exact hq
   ·rw[if_neg c9]at hF
    cases hF;simp only[simprocAttr,R0,b42,h_0,w2,w4,w6,w8,eq_false c9];exact fin_ret (by simp only[simprocAttr,R0,fn_out,p42,Rs.ev,take_len_self,h_0,w2,w4,w6,w8,eq_false c9])
  |false=>
   rw[if_neg Bool.false_ne_true]at hF;cases hF;simp only[simprocAttr,R0,b42,h_0,w2,w4,w6];exact fin_ret (by simp only[simprocAttr,R0,fn_out,p42,Rs.ev,take_len_self,h_0,w2,w4,w6])
 |false=>
  rw[if_neg Bool.false_ne_true]at hF;cases hF;simp only[simprocAttr,R0,b42,h_0,w2];exact fin_ret (by simp only[simprocAttr,R0,fn_out,p42,Rs.ev,take_len_self,h_0,w2])
def F305_1_B(a0:List GComplex)(v9_1:Int)(s:Unit):Option ((Unit)⊕((Unit)⊕Int)):=
 (getI a0 v9_1).bind fun x4=>
(F42 x4).bind fun x6=>
if x6=true then
 some (.inl ())
else
 some (.inr (.inr 1))
def F305_1_D(a0:List GComplex)(v9_1:Int)(s:Unit):Option ((Unit)⊕Int):=
 some (.inl ())
def F305_2_B(a0:List GComplex)(v19_2:Int)(s:Unit):Option ((Unit)⊕((Unit)⊕Int)):=
 (getI a0 v19_2).bind fun x12=>
(getI a0 0).bind fun x14=>
if x12.Prime=x14.Prime then
 if(x12.Dims.length:Int)=(x14.Dims.length:Int)then
  some (.inl ())
 else
  some (.inr (.inr 2))
else
 some (.inr (.inr 2))
def F305_2_D(a0:List GComplex)(v19_2:Int)(s:Unit):Option ((Unit)⊕Int):=
 some (.inl ())
def F305(a0:List GComplex):Option Int:=
 (forR 0 (a0.length:Int) (F305_1_B a0) (F305_1_D a0) ()).bind fun t8=> match t8 with
  | .inl _=>
   (forR 0 (a0.length:Int) (F305_2_B a0) (F305_2_D a0) ()).bind fun t18=> match t18 with
    | .inl _=>
     some 0
    | .inr r19=> some r19
  | .inr r20=> some r20
def I305_1(a0:List GComplex)(v9_1:Int)(s:Unit)(e:Env)(h:Heap):Prop:=
 ∃k2:Nat,h=⟨[],k2⟩∧e.length=42∧e.at 0=V.isl (a0.map Enc.enc)∧e.at 7=V.isl (a0.map Enc.enc)∧e.at 8=V.int .i64 (a0.length:Int)∧e.at 9=V.int .i64 v9_1
def P305_1(a0:List GComplex)(t:(Unit)⊕Int)(x:Ex)(e:Env)(h:Heap):Prop:=
 match t with
 | .inl _=> x= .normal∧∃k2:Nat,h=⟨[],k2⟩∧e.length=42∧e.at 0=V.isl (a0.map Enc.enc)
 | .inr r=> x= .ret∧Fin p305 (Enc.enc r) .ret e h
theorem l305_1(a0:List GComplex){lo:Int}{s:Unit}{t:(Unit)⊕Int}(hF:forR lo (a0.length:Int) (F305_1_B a0) (F305_1_D a0) s=some t){e:Env}{h:Heap}(hI:I305_1 a0 lo s e h):W A c305_1 e h (P305_1 a0 t):=by
 show W A (.block 0 (.loop false b305_1)) e h _;rw[W_block];refine W_forR hF 0 (by obtain⟨_,rfl,_⟩:=hI; rfl) (I305_1 a0) hI ?_ ?_
 ·rintro v9_1 _ e h ⟨k2,rfl,h_1⟩ hlt hw o ho
  unfold F305_1_B at ho;obtain⟨x4,gx4,ho⟩:=bS ho;obtain⟨w5a,w5b⟩:=getI_w gx4;obtain⟨x6,gx6,ho⟩:=bS ho;have w7:ans A 42 [(eC x4)]=some (V.bool x6):=s42 x4 gx6;cases x6 with
  |true=>
   rw[if_pos rfl]at ho;cases ho;simp only[simprocAttr,R0,b305_1,h_1,eq_true hlt,hw,w5a,w5b,w7];refine ai rfl (ei _ (ai rfl ?_));simp only[simprocAttr,R0,h_1,eq_true hlt,hw,w5a,w5b,w7]
  |false=>
   rw[if_neg Bool.false_ne_true]at ho;cases ho;simp only[simprocAttr,R0,b305_1,h_1,eq_true hlt,hw,w5a,w5b,w7];intro ht; subst ht;simp only[simprocAttr,RR,RB];exact ai rfl (fin_ret (by simp only[simprocAttr,R0,fn_out,p305,Rs.ev,take_len_self,h_1,eq_true hlt,hw,w5a,w5b,w7]))
 ·rintro v9_1 _ e h ⟨k2,rfl,h_1⟩ hge t1 ho
  unfold F305_1_D at ho;cases ho;simp only[simprocAttr,R0,b305_1,h_1,eq_false hge];intro ht; subst ht;refine ai rfl (ei _ (ai rfl ?_));simp only[simprocAttr,R0,h_1,eq_false hge]
def I305_2(a0:List GComplex)(v19_2:Int)(s:Unit)(e:Env)(h:Heap):Prop:=
 ∃k10:Nat,h=⟨[],k10⟩∧e.length=42∧e.at 0=V.isl (a0.map Enc.enc)∧e.at 17=V.isl (a0.map Enc.enc)∧e.at 18=V.int .i64 (a0.length:Int)∧e.at 19=V.int .i64 v19_2
def P305_2(a0:List GComplex)(t:(Unit)⊕Int)(x:Ex)(e:Env)(h:Heap):Prop:=
 match t with
 | .inl _=> x= .normal∧∃k10:Nat,h=⟨[],k10⟩∧e.length=42
 | .inr r=> x= .ret∧Fin p305 (Enc.enc r) .ret e h
theorem l305_2(a0:List GComplex){lo:Int}{s:Unit}{t:(Unit)⊕Int}(hF:forR lo (a0.length:Int) (F305_2_B a0) (F305_2_D a0) s=some t){e:Env}{h:Heap}(hI:I305_2 a0 lo s e h):W A c305_2 e h (P305_2 a0 t):=by
 show W A (.block 2 (.loop false b305_2)) e h _;rw[W_block];refine W_forR hF 0 (by obtain⟨_,rfl,_⟩:=hI; rfl) (I305_2 a0) hI ?_ ?_
 ·rintro v19_2 _ e h ⟨k10,rfl,h_9⟩ hlt hw o ho
  unfold F305_2_B at ho;obtain⟨x12,gx12,ho⟩:=bS ho;obtain⟨w13a,w13b⟩:=getI_w gx12;obtain⟨x14,gx14,ho⟩:=bS ho;obtain⟨w15a,w15b⟩:=getI_w gx14;replace w15b:a0[0]? =some x14:=w15b;by_cases c16:x12.Prime=x14.Prime
  ·rw[if_pos c16]at ho
   by_cases c17:(x12.Dims.length:Int)=(x14.Dims.length:Int)
   ·rw[if_pos c17]at ho
    cases ho;simp only[simprocAttr,R0,b305_2,h_9,eq_true hlt,hw,w13a,w13b,w15a,w15b,eq_true c16,eq_true c17];refine ai rfl (ei _ (ai rfl ?_));simp only[simprocAttr,R0,h_9,eq_true hlt,hw,w13a,w13b,w15a,w15b,eq_true c16,eq_true c17]
   ·rw[if_neg c17]at ho
    cases ho;simp only[simprocAttr,R0,b305_2,h_9,eq_true hlt,hw,w13a,w13b,w15a,w15b,eq_true c16,eq_false c17];intro ht; subst ht;simp only[simprocAttr,RR,RB];exact ai rfl (fin_ret (by simp only[simprocAttr,R0,fn_out,p305,Rs.ev,take_len_self,h_9,eq_true hlt,hw,w13a,w13b,w15a,w15b,eq_true c16,eq_false c17]))
  ·rw[if_neg c16]at ho
   cases ho;simp only[simprocAttr,R0,b305_2,h_9,eq_true hlt,hw,w13a,w13b,w15a,w15b,eq_false c16];intro ht; subst ht;simp only[simprocAttr,RR,RB];exact ai rfl (fin_ret (by simp only[simprocAttr,R0,fn_out,p305,Rs.ev,take_len_self,h_9,eq_true hlt,hw,w13a,w13b,w15a,w15b,eq_false c16]))
 ·rintro v19_2 _ e h ⟨k10,rfl,h_9⟩ hge t1 ho
  unfold F305_2_D at ho;cases ho;simp only[simprocAttr,R0,b305_2,h_9,eq_false hge];intro ht; subst ht;refine ai rfl (ei _ (ai rfl ?_));simp only[simprocAttr,R0,h_9,eq_false hge]
theorem s305(a0:List GComplex){r:Int}(hF:F305 a0=some r):ans A 305 [V.isl (a0.map Enc.enc)]=some (Enc.enc r):=by
 refine ans_of (f:=p305) rfl rfl rfl fun e hl he=>?_;have h0_0:e.at 0=V.isl (a0.map Enc.enc):=he 0 _ rfl;have hl_0:e.length=42:=hl;clear he hl;have h_0:=ai hl_0 h0_0;show W A b305 e ⟨[],0⟩ _;unfold F305 at hF;obtain⟨t8,gt8,hF⟩:=bS hF;rcases t8 with _|r20
 ·dsimp only at hF
  simp only[simprocAttr,R0,b305,h_0];refine W.mono (l305_1 a0 gt8 (ei _ (ai rfl ?_))) ?_
  ·simp only[simprocAttr,R0,h_0]
  rintro _ e _ ⟨rfl,k2,rfl,h_3⟩;obtain⟨t18,gt18,hF⟩:=bS hF;rcases t18 with _|r19
  ·dsimp only at hF
   simp only[simprocAttr,R0,h_3];refine W.mono (l305_2 a0 gt18 (ei _ (ai rfl ?_))) ?_
   ·simp only[simprocAttr,R0,h_3]
   rintro _ e _ ⟨rfl,k10,rfl,hl_11⟩;cases hF;simp only[simprocAttr,R0,hl_11];exact fin_ret (by simp only[simprocAttr,R0,fn_out,p305,Rs.ev,take_len_self,hl_11])
  ·dsimp only at hF
   cases hF;simp only[simprocAttr,R0,h_3];refine W.mono (l305_2 a0 gt18 (ei _ (ai rfl ?_))) ?_
   ·simp only[simprocAttr,R0,h_3]
   rintro _ e h ⟨rfl,hq⟩;simp only[simprocAttr,RR,RB];exact hq
 ·dsimp only at hF
  cases hF;simp only[simprocAttr,R0,b305,h_0];refine W.mono (l305_1 a0 gt8 (ei _ (ai rfl ?_))) ?_
  ·simp only[simprocAttr,R0,h_0]
  rintro _ e h ⟨rfl,hq⟩;simp only[simprocAttr,RR,RB];exact hq
def F313_1_B(a0:GComplex)(a1:GComplex)(a2:List (List (List Int)))(a3:Int)(v19_1:Int)(s:Unit):Option ((Unit)⊕((Unit)⊕Bool)):=
 (getI a2 v19_1).bind fun x5=>
(getI a0.Dims v19_1).bind fun x9=>
if(x5.length:Int)=x9 then
 (chk (v19_1+a3)).bind fun x12=>
 (F102 a1 x12).bind fun x13=>
 (F90 a0.Prime x13 x5).bind fun x15=>
 if x15=true then
  some (.inl ())
 else
  some (.inr (.inr false))
else
 some (.inr (.inr false))
def F313_1_D(a0:GComplex)(a1:GComplex)(a2:List (List (List Int)))(a3:Int)(v19_1:Int)(s:Unit):Option ((Unit)⊕Bool):=
 some (.inl ())
def F313(a0:GComplex)(a1:GComplex)(a2:List (List (List Int)))(a3:Int):Option Bool:=
 if(a2.length:Int)=(a0.Dims.length:Int)then
  (forR 0 (a2.length:Int) (F313_1_B a0 a1 a2 a3) (F313_1_D a0 a1 a2 a3) ()).bind fun t17=> match t17 with
   | .inl _=>
    some true
   | .inr r18=> some r18
 else
  some false
def I313_1(a0:GComplex)(a1:GComplex)(a2:List (List (List Int)))(a3:Int)(v19_1:Int)(s:Unit)(e:Env)(h:Heap):Prop:=
 ∃k3:Nat,h=⟨[(0,none),(0,none)],k3⟩∧e.length=45∧e.at 3=V.int .i64 a3∧e.at 4=V.iptr [V.int .i64 a0.Prime,V.isl (a0.Dims.map Enc.enc),V.isl (a0.Maps.map Enc.enc)]∧e.at 5=V.iptr [V.int .i64 a1.Prime,V.isl (a1.Dims.map Enc.enc),V.isl (a1.Maps.map Enc.enc)]∧e.at 17=V.isl (a2.map Enc.enc)∧e.at 18=V.int .i64 (a2.length:Int)∧e.at 19=V.int .i64 v19_1
def P313_1(a0:GComplex)(a1:GComplex)(a2:List (List (List Int)))(a3:Int)(t:(Unit)⊕Bool)(x:Ex)(e:Env)(h:Heap):Prop:=
 match t with
 | .inl _=> x= .normal∧∃k3:Nat,h=⟨[(0,none),(0,none)],k3⟩∧e.length=45
 | .inr r=> x= .ret∧Fin p313 (Enc.enc r) .ret e h
theorem l313_1(a0:GComplex)(a1:GComplex)(a2:List (List (List Int)))(a3:Int){lo:Int}{s:Unit}{t:(Unit)⊕Bool}(hF:forR lo (a2.length:Int) (F313_1_B a0 a1 a2 a3) (F313_1_D a0 a1 a2 a3) s=some t){e:Env}{h:Heap}(hI:I313_1 a0 a1 a2 a3 lo s e h):W A c313_1 e h (P313_1 a0 a1 a2 a3 t):=by
 show W A (.block 0 (.loop false b313_1)) e h _;rw[W_block];refine W_forR hF 2 (by obtain⟨_,rfl,_⟩:=hI; rfl) (I313_1 a0 a1 a2 a3) hI ?_ ?_
 ·rintro v19_1 _ e h ⟨k3,rfl,h_2⟩ hlt hw o ho
  unfold F313_1_B at ho;obtain⟨x5,gx5,ho⟩:=bS ho;obtain⟨w6a,w6b⟩:=getI_w gx5;have w8:ans A 89 [V.isl (x5.map Enc.enc)]=some (V.int .i64 (x5.length:Int)):=s89 x5 rfl;obtain⟨x9,gx9,ho⟩:=bS ho;obtain⟨w10a,w10b⟩:=getI_w gx9;by_cases c11:(x5.length:Int)=x9
  ·rw[if_pos c11]at ho
   obtain⟨x12,gx12,ho⟩:=bS ho;have wx12:=chk_w gx12;obtain⟨x13,gx13,ho⟩:=bS ho;have w14:ans A 102 [(eC a1),V.int .i64 x12]=some (V.int .i64 x13):=s102 a1 x12 gx13;obtain⟨x15,gx15,ho⟩:=bS ho;have w16:ans A 90 [V.int .i64 a0.Prime,V.int .i64 x13,V.isl (x5.map Enc.enc)]=some (V.bool x15):=s90 a0.Prime x13 x5 gx15;cases x15 with
   |true=>
    rw[if_pos rfl]at ho;cases ho;simp only[simprocAttr,R0,b313_1,h_2,eq_true hlt,hw,w6a,w6b,w8,w10a,w10b,eq_true c11,wx12,w14,w16];refine ai rfl (ei _ (ai rfl ?_));simp only[simprocAttr,R0,h_2,eq_true hlt,hw,w6a,w6b,w8,w10a,w10b,eq_true c11,wx12,w14,w16]
   |false=>
    rw[if_neg Bool.false_ne_true]at ho;cases ho;simp only[simprocAttr,R0,b313_1,h_2,eq_true hlt,hw,w6a,w6b,w8,w10a,w10b,eq_true c11,wx12,w14,w16];intro ht; subst ht;simp only[simprocAttr,RR,RB];exact ai rfl (fin_ret (by simp only[simprocAttr,R0,fn_out,p313,Rs.ev,take_len_self,h_2,eq_true hlt,hw,w6a,w6b,w8,w10a,w10b,eq_true c11,wx12,w14,w16]))
  ·rw[if_neg c11]at ho
   cases ho;simp only[simprocAttr,R0,b313_1,h_2,eq_true hlt,hw,w6a,w6b,w8,w10a,w10b,eq_false c11];intro ht; subst ht;simp only[simprocAttr,RR,RB];exact ai rfl (fin_ret (by simp only[simprocAttr,R0,fn_out,p313,Rs.ev,take_len_self,h_2,eq_true hlt,hw,w6a,w6b,w8,w10a,w10b,eq_false c11]))
 ·rintro v19_1 _ e h ⟨k3,rfl,h_2⟩ hge t1 ho
  unfold F313_1_D at ho;cases ho;simp only[simprocAttr,R0,b313_1,h_2,eq_false hge];intro ht; subst ht;refine ai rfl (ei _ (ai rfl ?_));simp only[simprocAttr,R0,h_2,eq_false hge]
theorem s313(a0:GComplex)(a1:GComplex)(a2:List (List (List Int)))(a3:Int){r:Bool}(hF:F313 a0 a1 a2 a3=some r):ans A 313 [(eC a0),(eC a1),V.isl (a2.map Enc.enc),V.int .i64 a3]=some (Enc.enc r):=by
 refine ans_of (f:=p313) rfl rfl rfl fun e hl he=>?_;have h0_0:e.at 0=(eC a0):=he 0 _ rfl;have h1_0:e.at 1=(eC a1):=he 1 _ rfl;have h2_0:e.at 2=V.isl (a2.map Enc.enc):=he 2 _ rfl;have h3_0:e.at 3=V.int .i64 a3:=he 3 _ rfl;have hl_0:e.length=45:=hl;clear he hl;have h_0:=ai hl_0 (ai h0_0 (ai h1_0 (ai h2_0 h3_0)));show W A b313 e ⟨[],0⟩ _;unfold F313 at hF;by_cases c1:(a2.length:Int)=(a0.Dims.length:Int)
 ·rw[if_pos c1]at hF
  obtain⟨t17,gt17,hF⟩:=bS hF;rcases t17 with _|r18
  ·dsimp only at hF
   simp only[simprocAttr,R0,b313,h_0,eq_true c1];refine W.mono (l313_1 a0 a1 a2 a3 gt17 (ei _ (ai rfl ?_))) ?_
   ·simp only[simprocAttr,R0,h_0,eq_true c1]
   rintro _ e _ ⟨rfl,k3,rfl,hl_4⟩;cases hF;simp only[simprocAttr,R0,hl_4,eq_true c1];exact fin_ret (by simp only[simprocAttr,R0,fn_out,p313,Rs.ev,take_len_self,hl_4,eq_true c1])
  ·dsimp only at hF
   cases hF;simp only[simprocAttr,R0,b313,h_0,eq_true c1];refine W.mono (l313_1 a0 a1 a2 a3 gt17 (ei _ (ai rfl ?_))) ?_
   ·simp only[simprocAttr,R0,h_0,eq_true c1]
   rintro _ e h ⟨rfl,hq⟩;simp only[simprocAttr,RR,RB];exact hq
 ·rw[if_neg c1]at hF
  cases hF;simp only[simprocAttr,R0,b313,h_0,eq_false c1];exact fin_ret (by simp only[simprocAttr,R0,fn_out,p313,Rs.ev,take_len_self,h_0,eq_false c1])
def F306(a0:List (List (List Int)))(d0:GComplex)(d1:GComplex):Option Bool:=
 (F313 d0 d1 a0 0).bind fun x1=>
 some (!x1)
theorem s306(a0:List (List (List Int)))(d0:GComplex)(d1:GComplex){r:Bool}(hF:F306 a0 d0 d1=some r):ans A 306 [V.isl (a0.map Enc.enc),V.iptr [V.int .i64 d0.Prime,V.isl (d0.Dims.map Enc.enc),V.isl (d0.Maps.map Enc.enc)],V.iptr [V.int .i64 d1.Prime,V.isl (d1.Dims.map Enc.enc),V.isl (d1.Maps.map Enc.enc)]]=some (Enc.enc r):=by
 refine ans_of (f:=p306) rfl rfl rfl fun e hl he=>?_;have h0_0:e.at 0=V.isl (a0.map Enc.enc):=he 0 _ rfl;have h1_0:e.at 1=V.iptr [V.int .i64 d0.Prime,V.isl (d0.Dims.map Enc.enc),V.isl (d0.Maps.map Enc.enc)]:=he 1 _ rfl;have h2_0:e.at 2=V.iptr [V.int .i64 d1.Prime,V.isl (d1.Dims.map Enc.enc),V.isl (d1.Maps.map Enc.enc)]:=he 2 _ rfl;have hl_0:e.length=10:=hl;clear he hl;show W A b306 e ⟨[],0⟩ _;unfold F306 at hF;obtain⟨x1,gx1,hF⟩:=bS hF;have w2:ans A 313 [(eC d0),(eC d1),V.isl (a0.map Enc.enc),V.int .i64 0]=some (V.bool x1):=s313 d0 d1 a0 0 gx1;cases hF;simp only[simprocAttr,R0,b306,hl_0,h0_0,h1_0,h2_0,w2];exact fin_ret (by simp only[simprocAttr,R0,fn_out,p306,Rs.ev,take_len_self,hl_0,h0_0,h1_0,h2_0,w2])
def F274(a0:GComplex)(a1:GComplex)(a2:List (List (List (List Int)))):Option Int:=
 (F305 [a0,a1]).bind fun x1=>
 if x1=0 then
  (F276 a2 (fun x=> F306 x a0 a1)).bind fun x4=>
  if x4=true then
   some 2
  else
   some x1
 else
  some x1
theorem s274(a0:GComplex)(a1:GComplex)(a2:List (List (List (List Int)))){r:Int}(hF:F274 a0 a1 a2=some r):ans A 274 [(eC a0),(eC a1),V.isl (a2.map Enc.enc)]=some (Enc.enc r):=by
 refine ans_of (f:=p274) rfl rfl rfl fun e hl he=>?_;have h0_0:e.at 0=(eC a0):=he 0 _ rfl;have h1_0:e.at 1=(eC a1):=he 1 _ rfl;have h2_0:e.at 2=V.isl (a2.map Enc.enc):=he 2 _ rfl;have hl_0:e.length=20:=hl;clear he hl;have h_0:=ai hl_0 (ai h0_0 (ai h1_0 h2_0));show W A b274 e ⟨[],0⟩ _;unfold F274 at hF;obtain⟨x1,gx1,hF⟩:=bS hF;have w2:ans A 305 [V.isl [(eC a0),(eC a1)]]=some (V.int .i64 x1):=s305 [a0,a1] gx1;by_cases c3:x1=0
 ·rw[if_pos c3]at hF
  obtain⟨x4,gx4,hF⟩:=bS hF;have w5:ans A 276 [V.isl (a2.map Enc.enc),V.fn 306 [] [V.iptr [V.int .i64 a0.Prime,V.isl (a0.Dims.map Enc.enc),V.isl (a0.Maps.map Enc.enc)],V.iptr [V.int .i64 a1.Prime,V.isl (a1.Dims.map Enc.enc),V.isl (a1.Maps.map Enc.enc)]]]=some (V.bool x4):=s276 a2 (fun x=> F306 x a0 a1) (Clo1.of (by intro h f; simp only[RZ,mapO]) (by intro h f; simp only[RZ,mapO]) (by intro f; simp only[RZ,RB]) (by intro f; simp only[RZ,RB]) (fun x _ hr=> s306 x a0 a1 hr)) gx4;cases x4 with
  |true=>
   rw[if_pos rfl]at hF;cases hF;simp only[simprocAttr,R0,b274,h_0,w2,eq_true c3,w5];exact fin_ret (by simp only[simprocAttr,R0,fn_out,p274,Rs.ev,take_len_self,h_0,w2,eq_true c3,w5])
  |false=>
   rw[if_neg Bool.false_ne_true]at hF;cases hF;simp only[simprocAttr,R0,b274,h_0,w2,eq_true c3,w5];exact fin_ret (by simp only[simprocAttr,R0,fn_out,p274,Rs.ev,take_len_self,h_0,w2,eq_true c3,w5])
 ·rw[if_neg c3]at hF
  cases hF;simp only[simprocAttr,R0,b274,h_0,w2,eq_false c3];exact fin_ret (by simp only[simprocAttr,R0,fn_out,p274,Rs.ev,take_len_self,h_0,w2,eq_false c3])
def F165_1_B(a0:List Int)(a1:List Int)(v13_1:Int)(s:Unit):Option ((Unit)⊕((Unit)⊕Bool)):=
 (getI a0 v13_1).bind fun x5=>
(getI a1 v13_1).bind fun x7=>
if x5=x7 then
 some (.inl ())
else
 some (.inr (.inr false))
def F165_1_D(a0:List Int)(a1:List Int)(v13_1:Int)(s:Unit):Option ((Unit)⊕Bool):=
 some (.inl ())
def F165(a0:List Int)(a1:List Int):Option Bool:=
 if(a0.length:Int)=(a1.length:Int)then
  (forR 0 (a0.length:Int) (F165_1_B a0 a1) (F165_1_D a0 a1) ()).bind fun t10=> match t10 with
   | .inl _=>
    some true
   | .inr r11=> some r11
 else
  some false
def I165_1(a0:List Int)(a1:List Int)(v13_1:Int)(s:Unit)(e:Env)(h:Heap):Prop:=
 ∃k3:Nat,h=⟨[],k3⟩∧e.length=26∧e.at 0=V.isl (a0.map Enc.enc)∧e.at 1=V.isl (a1.map Enc.enc)∧e.at 12=V.int .i64 (a0.length:Int)∧e.at 13=V.int .i64 v13_1
def P165_1(a0:List Int)(a1:List Int)(t:(Unit)⊕Bool)(x:Ex)(e:Env)(h:Heap):Prop:=
 match t with
 | .inl _=> x= .normal∧∃k3:Nat,h=⟨[],k3⟩∧e.length=26
 | .inr r=> x= .ret∧Fin p165 (Enc.enc r) .ret e h
theorem l165_1(a0:List Int)(a1:List Int){lo:Int}{s:Unit}{t:(Unit)⊕Bool}(hF:forR lo (a0.length:Int) (F165_1_B a0 a1) (F165_1_D a0 a1) s=some t){e:Env}{h:Heap}(hI:I165_1 a0 a1 lo s e h):W A c165_1 e h (P165_1 a0 a1 t):=by
 show W A (.block 0 (.loop false b165_1)) e h _;rw[W_block];refine W_forR hF 0 (by obtain⟨_,rfl,_⟩:=hI; rfl) (I165_1 a0 a1) hI ?_ ?_
 ·rintro v13_1 _ e h ⟨k3,rfl,h_2⟩ hlt hw o ho
  unfold F165_1_B at ho;obtain⟨x5,gx5,ho⟩:=bS ho;obtain⟨w6a,w6b⟩:=getI_w gx5;obtain⟨x7,gx7,ho⟩:=bS ho;obtain⟨w8a,w8b⟩:=getI_w gx7;by_cases c9:x5=x7
  ·rw[if_pos c9]at ho
   cases ho;simp only[simprocAttr,R0,b165_1,h_2,eq_true hlt,hw,w6a,w6b,w8a,w8b,eq_true c9];refine ai rfl (ei _ (ai rfl ?_));simp only[simprocAttr,R0,h_2,eq_true hlt,hw,w6a,w6b,w8a,w8b,eq_true c9]
  ·rw[if_neg c9]at ho
   cases ho;simp only[simprocAttr,R0,b165_1,h_2,eq_true hlt,hw,w6a,w6b,w8a,w8b,eq_false c9];intro ht; subst ht;simp only[simprocAttr,RR,RB];exact ai rfl (fin_ret (by simp only[simprocAttr,R0,fn_out,p165,Rs.ev,take_len_self,h_2,eq_true hlt,hw,w6a,w6b,w8a,w8b,eq_false c9]))
 ·rintro v13_1 _ e h ⟨k3,rfl,h_2⟩ hge t1 ho
  unfold F165_1_D at ho;cases ho;simp only[simprocAttr,R0,b165_1,h_2,eq_false hge];intro ht; subst ht;refine ai rfl (ei _ (ai rfl ?_));simp only[simprocAttr,R0,h_2,eq_false hge]
theorem s165(a0:List Int)(a1:List Int){r:Bool}(hF:F165 a0 a1=some r):ans A 165 [V.isl (a0.map Enc.enc),V.isl (a1.map Enc.enc)]=some (Enc.enc r):=by
 refine ans_of (f:=p165) rfl rfl rfl fun e hl he=>?_;have h0_0:e.at 0=V.isl (a0.map Enc.enc):=he 0 _ rfl;have h1_0:e.at 1=V.isl (a1.map Enc.enc):=he 1 _ rfl;have hl_0:e.length=26:=hl;clear he hl;have h_0:=ai hl_0 (ai h0_0 h1_0);show W A b165 e ⟨[],0⟩ _;unfold F165 at hF;by_cases c1:(a0.length:Int)=(a1.length:Int)
 ·rw[if_pos c1]at hF
  obtain⟨t10,gt10,hF⟩:=bS hF;rcases t10 with _|r11
  ·dsimp only at hF
   simp only[simprocAttr,R0,b165,h_0,eq_true c1];refine W.mono (l165_1 a0 a1 gt10 (ei _ (ai rfl ?_))) ?_
   ·simp only[simprocAttr,R0,h_0,eq_true c1]
   rintro _ e _ ⟨rfl,k3,rfl,hl_4⟩;cases hF;simp only[simprocAttr,R0,hl_4,eq_true c1];exact fin_ret (by simp only[simprocAttr,R0,fn_out,p165,Rs.ev,take_len_self,hl_4,eq_true c1])
  ·dsimp only at hF
   cases hF;simp only[simprocAttr,R0,b165,h_0,eq_true c1];refine W.mono (l165_1 a0 a1 gt10 (ei _ (ai rfl ?_))) ?_
   ·simp only[simprocAttr,R0,h_0,eq_true c1]
   rintro _ e h ⟨rfl,hq⟩;simp only[simprocAttr,RR,RB];exact hq
 ·rw[if_neg c1]at hF
  cases hF;simp only[simprocAttr,R0,b165,h_0,eq_false c1];exact fin_ret (by simp only[simprocAttr,R0,fn_out,p165,Rs.ev,take_len_self,h_0,eq_false c1])
def F309(a0:GComplex)(a1:GComplex)(a2:List (List (List Int)))(a3:Int)(a4:Int)(a5:List Int):Option (List Int):=
 (F86 a0).bind fun x1=>
 (F56 a4 0 x1).bind fun x3=>
 if x3=true then
  (chk (a4+a3)).bind fun x5=>
  (F102 a1 x5).bind fun x6=>
  (getI a2 a4).bind fun x8=>
  (F119 a0.Prime x6 a5 x8).bind fun x10=>
  some x10
 else
  (chk (a4+a3)).bind fun x12=>
  (F102 a1 x12).bind fun x13=>
  (mkL 8 x13 0).bind fun l15=>
  some l15
theorem s309(a0:GComplex)(a1:GComplex)(a2:List (List (List Int)))(a3:Int)(a4:Int)(a5:List Int){r:List Int}(hF:F309 a0 a1 a2 a3 a4 a5=some r):ans A 309 [(eC a0),(eC a1),V.isl (a2.map Enc.enc),V.int .i64 a3,V.int .i64 a4,V.isl (a5.map Enc.enc)]=some (Enc.enc r):=by
 refine ans_of (f:=p309) rfl rfl rfl fun e hl he=>?_;have h0_0:e.at 0=(eC a0):=he 0 _ rfl;have h1_0:e.at 1=(eC a1):=he 1 _ rfl;have h2_0:e.at 2=V.isl (a2.map Enc.enc):=he 2 _ rfl;have h3_0:e.at 3=V.int .i64 a3:=he 3 _ rfl;have h4_0:e.at 4=V.int .i64 a4:=he 4 _ rfl;have h5_0:e.at 5=V.isl (a5.map Enc.enc):=he 5 _ rfl;have hl_0:e.length=37:=hl;clear he hl;show W A b309 e ⟨[],0⟩ _;unfold F309 at hF;obtain⟨x1,gx1,hF⟩:=bS hF;have w2:ans A 86 [(eC a0)]=some (V.int .i64 x1):=s86 a0 gx1;obtain⟨x3,gx3,hF⟩:=bS hF;have w4:ans A 56 [V.int .i64 a4,V.int .i64 0,V.int .i64 x1]=some (V.bool x3):=s56 a4 0 x1 gx3;cases x3 with
 |true=>
  rw[if_pos rfl]at hF;obtain⟨x5,gx5,hF⟩:=bS hF;have wx5:=chk_w gx5;obtain⟨x6,gx6,hF⟩:=bS hF;have w7:ans A 102 [(eC a1),V.int .i64 x5]=some (V.int .i64 x6):=s102 a1 x5 gx6;obtain⟨x8,gx8,hF⟩:=bS hF;obtain⟨w9a,w9b⟩:=getI_w gx8;obtain⟨x10,gx10,hF⟩:=bS hF;have w11:ans A 119 [V.int .i64 a0.Prime,V.int .i64 x6,V.isl (a5.map Enc.enc),V.isl (x8.map Enc.enc)]=some (V.isl (x10.map Enc.enc)):=s119 a0.Prime x6 a5 x8 gx10;have hE:=Option.some.inj hF; subst hE;simp only[simprocAttr, -Int.reduceNatCast',R0,b309,hl_0,h0_0,h1_0,h2_0,h3_0,h4_0,h5_0,w2,w4,wx5,w7,w9a,w9b,w11];exact fin_ret (by simp only[simprocAttr, -Int.reduceNatCast',R0,fn_out,p309,Rs.ev,take_len_self,hl_0,h0_0,h1_0,h2_0,h3_0,h4_0,h5_0,w2,w4,wx5,w7,w9a,w9b,w11])
 |false=>
  rw[if_neg Bool.false_ne_true]at hF;obtain⟨x12,gx12,hF⟩:=bS hF;have wx12:=chk_w gx12;obtain⟨x13,gx13,hF⟩:=bS hF;have w14:ans A 102 [(eC a1),V.int .i64 x12]=some (V.int .i64 x13):=s102 a1 x12 gx13;obtain⟨l15,gl15,hF⟩:=bS hF;obtain⟨w16a,w16b,w16c,w16d,w16e⟩:=mkL_w gl15;replace w16e:(List.replicate (Int.toNat x13) [V.int .i64 0]).flatten=List.map Enc.enc l15:=w16e;have hE:=Option.some.inj hF; subst hE;simp only[simprocAttr, -Int.reduceNatCast',R0,b309,hl_0,h0_0,h1_0,h2_0,h3_0,h4_0,h5_0,w2,w4,wx12,w14,w16a,w16b,w16c,w16e];exact fin_ret (by simp only[simprocAttr, -Int.reduceNatCast',R0,fn_out,p309,Rs.ev,take_len_self,hl_0,h0_0,h1_0,h2_0,h3_0,h4_0,h5_0,w2,w4,wx12,w14,w16a,w16b,w16c,w16e,frzs (α:=Int) l15,takes (α:=Int) l15,take_len (α:=Int) (l:=l15) (n:=(Int.toNat x13)) (by first|rfl|simp only[w16d]),w16d])
def F308_2_B(a0:GComplex)(a1:GComplex)(a2:List (List (List Int)))(v7_1:Int)(x7:List (List Int))(v21_2:Int)(s:Unit):Option ((Unit)⊕((Unit)⊕Bool)):=
 (getI x7 v21_2).bind fun x12=>
(chk (v7_1 - 1)).bind fun x14=>
(getI a0.Maps x14).bind fun x15=>
(getI x15 v21_2).bind fun x17=>
(F309 a0 a1 a2 0 x14 x17).bind fun x19=>
(F91 a1 v7_1 x12).bind fun x21=>
(F165 x19 x21).bind fun x23=>
if x23=true then
 some (.inl ())
else
 some (.inr (.inr false))
def F308_2_D(a0:GComplex)(a1:GComplex)(a2:List (List (List Int)))(v7_1:Int)(x7:List (List Int))(v21_2:Int)(s:Unit):Option ((Unit)⊕Bool):=
 some (.inl ())
def F308_1_S(a0:GComplex)(a1:GComplex)(a2:List (List (List Int)))(v7_1:Int):Option ((Int)⊕((Unit)⊕Bool)):=
 (F86 a0).bind fun x4=>
if v7_1≤x4 then
 (getI a2 v7_1).bind fun x7=>
 (forR 0 (x7.length:Int) (F308_2_B a0 a1 a2 v7_1 x7) (F308_2_D a0 a1 a2 v7_1 x7) ()).bind fun t25=> match t25 with
  | .inl _=>
   (chk (v7_1+1)).bind fun x26=>
   some (.inl x26)
  | .inr r27=> some (.inr (.inr r27))
else
 some (.inr (.inl ()))
def F308(a0:GComplex)(a1:GComplex)(a2:List (List (List Int))):Option Bool:=
 (loopW (F308_1_S a0 a1 a2) 1).bind fun t28=> match t28 with
  | .inl _=>
   some true
  | .inr r29=> some r29
def I308_2(a0:GComplex)(a1:GComplex)(a2:List (List (List Int)))(v7_1:Int)(x7:List (List Int))(v21_2:Int)(s:Unit)(e:Env)(h:Heap):Prop:=
 ∃k10:Nat,h=⟨[(0,none),(0,none)],k10⟩∧e.length=48∧e.at 2=V.isl (a2.map Enc.enc)∧e.at 3=V.iptr [V.int .i64 a0.Prime,V.isl (a0.Dims.map Enc.enc),V.isl (a0.Maps.map Enc.enc)]∧e.at 4=V.iptr [V.int .i64 a1.Prime,V.isl (a1.Dims.map Enc.enc),V.isl (a1.Maps.map Enc.enc)]∧e.at 7=V.int .i64 v7_1∧e.at 19=V.isl (x7.map Enc.enc)∧e.at 20=V.int .i64 (x7.length:Int)∧e.at 21=V.int .i64 v21_2
def P308_2(a0:GComplex)(a1:GComplex)(a2:List (List (List Int)))(v7_1:Int)(x7:List (List Int))(t:(Unit)⊕Bool)(x:Ex)(e:Env)(h:Heap):Prop:=
 match t with
 | .inl _=> x= .normal∧∃k10:Nat,h=⟨[(0,none),(0,none)],k10⟩∧e.length=48∧e.at 2=V.isl (a2.map Enc.enc)∧e.at 3=V.iptr [V.int .i64 a0.Prime,V.isl (a0.Dims.map Enc.enc),V.isl (a0.Maps.map Enc.enc)]∧e.at 4=V.iptr [V.int .i64 a1.Prime,V.isl (a1.Dims.map Enc.enc),V.isl (a1.Maps.map Enc.enc)]∧e.at 7=V.int .i64 v7_1
 | .inr r=> x= .ret∧Fin p308 (Enc.enc r) .ret e h
theorem l308_2(a0:GComplex)(a1:GComplex)(a2:List (List (List Int)))(v7_1:Int)(x7:List (List Int)){lo:Int}{s:Unit}{t:(Unit)⊕Bool}(hF:forR lo (x7.length:Int) (F308_2_B a0 a1 a2 v7_1 x7) (F308_2_D a0 a1 a2 v7_1 x7) s=some t){e:Env}{h:Heap}(hI:I308_2 a0 a1 a2 v7_1 x7 lo s e h):W A c308_2 e h (P308_2 a0 a1 a2 v7_1 x7 t):=by
 show W A (.block 2 (.loop false b308_2)) e h _;rw[W_block];refine W_forR hF 2 (by obtain⟨_,rfl,_⟩:=hI; rfl) (I308_2 a0 a1 a2 v7_1 x7) hI ?_ ?_
 ·rintro v21_2 _ e h ⟨k10,rfl,h_9⟩ hlt hw o ho
  unfold F308_2_B at ho;obtain⟨x12,gx12,ho⟩:=bS ho;obtain⟨w13a,w13b⟩:=getI_w gx12;obtain⟨x14,gx14,ho⟩:=bS ho;have wx14:=chk_w gx14;obtain⟨x15,gx15,ho⟩:=bS ho;obtain⟨w16a,w16b⟩:=getI_w gx15;obtain⟨x17,gx17,ho⟩:=bS ho;obtain⟨w18a,w18b⟩:=getI_w gx17;obtain⟨x19,gx19,ho⟩:=bS ho;have w20:ans A 309 [(eC a0),(eC a1),V.isl (a2.map Enc.enc),V.int .i64 0,V.int .i64 x14,V.isl (x17.map Enc.enc)]=some (V.isl (x19.map Enc.enc)):=s309 a0 a1 a2 0 x14 x17 gx19;obtain⟨x21,gx21,ho⟩:=bS ho;have w22:ans A 91 [(eC a1),V.int .i64 v7_1,V.isl (x12.map Enc.enc)]=some (V.isl (x21.map Enc.enc)):=s91 a1 v7_1 x12 gx21;obtain⟨x23,gx23,ho⟩:=bS ho;have w24:ans A 165 [V.isl (x19.map Enc.enc),V.isl (x21.map Enc.enc)]=some (V.bool x23):=s165 x19 x21 gx23;cases x23 with
  |true=>
   rw[if_pos rfl]at ho;cases ho;simp only[simprocAttr,R0,b308_2,h_9,eq_true hlt,hw,w13a,w13b,wx14,w16a,w16b,w18a,w18b,w20,w22,w24];refine ai rfl (ei _ (ai rfl ?_));simp only[simprocAttr,R0,h_9,eq_true hlt,hw,w13a,w13b,wx14,w16a,w16b,w18a,w18b,w20,w22,w24]
  |false=>
   rw[if_neg Bool.false_ne_true]at ho;cases ho;simp only[simprocAttr,R0,b308_2,h_9,eq_true hlt,hw,w13a,w13b,wx14,w16a,w16b,w18a,w18b,w20,w22,w24];intro ht; subst ht;simp only[simprocAttr,RR,RB];exact ai rfl (fin_ret (by simp only[simprocAttr,R0,fn_out,p308,Rs.ev,take_len_self,h_9,eq_true hlt,hw,w13a,w13b,wx14,w16a,w16b,w18a,w18b,w20,w22,w24]))
 ·rintro v21_2 _ e h ⟨k10,rfl,h_9⟩ hge t1 ho
  unfold F308_2_D at ho;cases ho;simp only[simprocAttr,R0,b308_2,h_9,eq_false hge];intro ht; subst ht;refine ai rfl (ei _ (ai rfl ?_));simp only[simprocAttr,R0,h_9,eq_false hge]
def I308_1(a0:GComplex)(a1:GComplex)(a2:List (List (List Int)))(v7_1:Int)(e:Env)(h:Heap):Prop:=
 ∃k2:Nat,h=⟨[(0,none),(0,none)],k2⟩∧e.length=48∧e.at 2=V.isl (a2.map Enc.enc)∧e.at 3=V.iptr [V.int .i64 a0.Prime,V.isl (a0.Dims.map Enc.enc),V.isl (a0.Maps.map Enc.enc)]∧e.at 4=V.iptr [V.int .i64 a1.Prime,V.isl (a1.Dims.map Enc.enc),V.isl (a1.Maps.map Enc.enc)]∧e.at 7=V.int .i64 v7_1
def P308_1(a0:GComplex)(a1:GComplex)(a2:List (List (List Int)))(t:(Unit)⊕Bool)(x:Ex)(e:Env)(h:Heap):Prop:=
 match t with
 | .inl _=> x= .normal∧∃k2:Nat,h=⟨[(0,none),(0,none)],k2⟩∧e.length=48
 | .inr r=> x= .ret∧Fin p308 (Enc.enc r) .ret e h
theorem l308_1(a0:GComplex)(a1:GComplex)(a2:List (List (List Int))){s:Int}{t:(Unit)⊕Bool}(hF:loopW (F308_1_S a0 a1 a2) s=some t){e:Env}{h:Heap}(hI:I308_1 a0 a1 a2 s e h):W A c308_1 e h (P308_1 a0 a1 a2 t):=by
 show W A (.block 0 (.loop false b308_1)) e h _;rw[W_block];refine W_loop hF 2 (by obtain⟨_,rfl,_⟩:=hI; rfl) (I308_1 a0 a1 a2) hI ?_
 ·rintro v7_1 e h ⟨k2,rfl,h_1⟩ o ho
  unfold F308_1_S at ho;obtain⟨x4,gx4,ho⟩:=bS ho;have w5:ans A 86 [(eC a0)]=some (V.int .i64 x4):=s86 a0 gx4;by_cases c6:v7_1≤x4
  ·rw[if_pos c6]at ho
   obtain⟨x7,gx7,ho⟩:=bS ho;obtain⟨w8a,w8b⟩:=getI_w gx7;obtain⟨t25,gt25,ho⟩:=bS ho;rcases t25 with _|r27
   ·dsimp only at ho
    simp only[simprocAttr,R0,b308_1,h_1,w5,eq_true c6,w8a,w8b];refine W.mono (l308_2 a0 a1 a2 v7_1 x7 gt25 (ei _ (ai rfl ?_))) ?_
    ·simp only[simprocAttr,R0,h_1,w5,eq_true c6,w8a,w8b]
    rintro _ e _ ⟨rfl,k10,rfl,h_11⟩;obtain⟨x26,gx26,ho⟩:=bS ho;have wx26:=chk_w gx26;cases ho;simp only[simprocAttr,R0,h_11,eq_true c6,wx26];refine ai rfl (ei _ (ai rfl ?_));simp only[simprocAttr,R0,h_11,eq_true c6,wx26]
   ·dsimp only at ho
    cases ho;simp only[simprocAttr,R0,b308_1,h_1,w5,eq_true c6,w8a,w8b];refine W.mono (l308_2 a0 a1 a2 v7_1 x7 gt25 (ei _ (ai rfl ?_))) ?_
    ·simp only[simprocAttr,R0,h_1,w5,eq_true c6,w8a,w8b]
    rintro _ e h ⟨rfl,hq⟩;simp only[simprocAttr,RR,RB];intro ht; subst ht;simp only[simprocAttr,RR,RB];exact ai rfl hq
  ·rw[if_neg c6]at ho
   cases ho;simp only[simprocAttr,R0,b308_1,h_1,w5,eq_false c6];intro ht; subst ht;simp only[simprocAttr,RR,RB];refine ai rfl (ei _ (ai rfl ?_));simp only[simprocAttr,R0,h_1,w5,eq_false c6]
theorem s308(a0:GComplex)(a1:GComplex)(a2:List (List (List Int))){r:Bool}(hF:F308 a0 a1 a2=some r):ans A 308 [(eC a0),(eC a1),V.isl (a2.map Enc.enc)]=some (Enc.enc r):=by
 refine ans_of (f:=p308) rfl rfl rfl fun e hl he=>?_;have h0_0:e.at 0=(eC a0):=he 0 _ rfl;have h1_0:e.at 1=(eC a1):=he 1 _ rfl;have h2_0:e.at 2=V.isl (a2.map Enc.enc):=he 2 _ rfl;have hl_0:e.length=48:=hl;clear he hl;have h_0:=ai hl_0 (ai h0_0 (ai h1_0 h2_0));show W A b308 e ⟨[],0⟩ _;unfold F308 at hF;obtain⟨t28,gt28,hF⟩:=bS hF;rcases t28 with _|r29
 ·dsimp only at hF
  simp only[simprocAttr,R0,b308,h_0];refine W.mono (l308_1 a0 a1 a2 gt28 (ei _ (ai rfl ?_))) ?_
  ·simp only[simprocAttr,R0,h_0]
  rintro _ e _ ⟨rfl,k2,rfl,hl_3⟩;cases hF;simp only[simprocAttr,R0,hl_3];exact fin_ret (by simp only[simprocAttr,R0,fn_out,p308,Rs.ev,take_len_self,hl_3])
 ·dsimp only at hF
  cases hF;simp only[simprocAttr,R0,b308,h_0];refine W.mono (l308_1 a0 a1 a2 gt28 (ei _ (ai rfl ?_))) ?_
  ·simp only[simprocAttr,R0,h_0]
  rintro _ e h ⟨rfl,hq⟩;simp only[simprocAttr,RR,RB];exact hq
def F275(a0:List (List (List Int)))(d0:GComplex)(d1:GComplex):Option Bool:=
 (F308 d0 d1 a0).bind fun x1=>
 some (!x1)
theorem s275(a0:List (List (List Int)))(d0:GComplex)(d1:GComplex){r:Bool}(hF:F275 a0 d0 d1=some r):ans A 275 [V.isl (a0.map Enc.enc),V.iptr [V.int .i64 d0.Prime,V.isl (d0.Dims.map Enc.enc),V.isl (d0.Maps.map Enc.enc)],V.iptr [V.int .i64 d1.Prime,V.isl (d1.Dims.map Enc.enc),V.isl (d1.Maps.map Enc.enc)]]=some (Enc.enc r):=by
 refine ans_of (f:=p275) rfl rfl rfl fun e hl he=>?_;have h0_0:e.at 0=V.isl (a0.map Enc.enc):=he 0 _ rfl;have h1_0:e.at 1=V.iptr [V.int .i64 d0.Prime,V.isl (d0.Dims.map Enc.enc),V.isl (d0.Maps.map Enc.enc)]:=he 1 _ rfl;have h2_0:e.at 2=V.iptr [V.int .i64 d1.Prime,V.isl (d1.Dims.map Enc.enc),V.isl (d1.Maps.map Enc.enc)]:=he 2 _ rfl;have hl_0:e.length=10:=hl;clear he hl;show W A b275 e ⟨[],0⟩ _;unfold F275 at hF;obtain⟨x1,gx1,hF⟩:=bS hF;have w2:ans A 308 [(eC d0),(eC d1),V.isl (a0.map Enc.enc)]=some (V.bool x1):=s308 d0 d1 a0 gx1;cases hF;simp only[simprocAttr,R0,b275,hl_0,h0_0,h1_0,h2_0,w2];exact fin_ret (by simp only[simprocAttr,R0,fn_out,p275,Rs.ev,take_len_self,hl_0,h0_0,h1_0,h2_0,w2])
def F244(a0:GComplex)(a1:GComplex)(a2:List (List (List (List Int)))):Option Int:=
 (F274 a0 a1 a2).bind fun x1=>
 if x1=0 then
  (F276 a2 (fun x=> F275 x a0 a1)).bind fun x4=>
  if x4=true then
   some 5
  else
   some x1
 else
  some x1
theorem s244(a0:GComplex)(a1:GComplex)(a2:List (List (List (List Int)))){r:Int}(hF:F244 a0 a1 a2=some r):ans A 244 [(eC a0),(eC a1),V.isl (a2.map Enc.enc)]=some (Enc.enc r):=by
 refine ans_of (f:=p244) rfl rfl rfl fun e hl he=>?_;have h0_0:e.at 0=(eC a0):=he 0 _ rfl;have h1_0:e.at 1=(eC a1):=he 1 _ rfl;have h2_0:e.at 2=V.isl (a2.map Enc.enc):=he 2 _ rfl;have hl_0:e.length=20:=hl;clear he hl;have h_0:=ai hl_0 (ai h0_0 (ai h1_0 h2_0));show W A b244 e ⟨[],0⟩ _;unfold F244 at hF;obtain⟨x1,gx1,hF⟩:=bS hF;have w2:ans A 274 [(eC a0),(eC a1),V.isl (a2.map Enc.enc)]=some (V.int .i64 x1):=s274 a0 a1 a2 gx1;by_cases c3:x1=0
 ·rw[if_pos c3]at hF
  obtain⟨x4,gx4,hF⟩:=bS hF;have w5:ans A 276 [V.isl (a2.map Enc.enc),V.fn 275 [] [V.iptr [V.int .i64 a0.Prime,V.isl (a0.Dims.map Enc.enc),V.isl (a0.Maps.map Enc.enc)],V.iptr [V.int .i64 a1.Prime,V.isl (a1.Dims.map Enc.enc),V.isl (a1.Maps.map Enc.enc)]]]=some (V.bool x4):=s276 a2 (fun x=> F275 x a0 a1) (Clo1.of (by intro h f; simp only[RZ,mapO]) (by intro h f; simp only[RZ,mapO]) (by intro f; simp only[RZ,RB]) (by intro f; simp only[RZ,RB]) (fun x _ hr=> s275 x a0 a1 hr)) gx4;cases x4 with
  |true=>
   rw[if_pos rfl]at hF;cases hF;simp only[simprocAttr,R0,b244,h_0,w2,eq_true c3,w5];exact fin_ret (by simp only[simprocAttr,R0,fn_out,p244,Rs.ev,take_len_self,h_0,w2,eq_true c3,w5])
  |false=>
   rw[if_neg Bool.false_ne_true]at hF;cases hF;simp only[simprocAttr,R0,b244,h_0,w2,eq_true c3,w5];exact fin_ret (by simp only[simprocAttr,R0,fn_out,p244,Rs.ev,take_len_self,h_0,w2,eq_true c3,w5])
 ·rw[if_neg c3]at hF
  cases hF;simp only[simprocAttr,R0,b244,h_0,w2,eq_false c3];exact fin_ret (by simp only[simprocAttr,R0,fn_out,p244,Rs.ev,take_len_self,h_0,w2,eq_false c3])
def F74_2_B(a1:List Int)(o1_1:List (List (List Int)))(q2_0_1:Int)(q2_1_1:List Int)(v6_1:Int)(x7:Int)(v22_2:Int)(o3_2:(List (List Int))):Option (((List (List Int)))⊕((List (List Int)))):=
 (chk (v6_1 - 1)).bind fun x13=>
(getI a1 x13).bind fun x14=>
(mkL 8 x14 0).bind fun l16=>
(app 24 o3_2 [l16]).bind fun l19=>
some (.inl l19)
def F74_2_D(a1:List Int)(o1_1:List (List (List Int)))(q2_0_1:Int)(q2_1_1:List Int)(v6_1:Int)(x7:Int)(v22_2:Int)(o3_2:(List (List Int))):Option ((List (List Int))):=
 some o3_2
def F74_1_B(a1:List Int)(v6_1:Int)(s:(List (List (List Int)))×Int×(List Int)):Option (((List (List (List Int)))×Int×(List Int))⊕((List (List (List Int)))×Int×(List Int))):=
 match s with
 |(o1_1,q2_0_1,q2_1_1)=>
  (getI a1 v6_1).bind fun x7=>
  (forR 0 x7 (F74_2_B a1 o1_1 q2_0_1 q2_1_1 v6_1 x7) (F74_2_D a1 o1_1 q2_0_1 q2_1_1 v6_1 x7) ([]:(List (List Int)))).bind fun zo3_2=>
  (app 24 o1_1 [zo3_2]).bind fun l22=>
  some (.inl (l22,q2_0_1,q2_1_1))
def F74_1_D(a1:List Int)(v6_1:Int)(s:(List (List (List Int)))×Int×(List Int)):Option ((List (List (List Int)))×Int×(List Int)):=
 match s with
 |(o1_1,q2_0_1,q2_1_1)=>
  some (o1_1,q2_0_1,q2_1_1)
def F74(a0:Int)(a1:List Int):Option GComplex:=
 (forR 1 (a1.length:Int) (F74_1_B a1) (F74_1_D a1) ([],a0,a1)).bind fun t25=> match t25 with
  |(zo1_1,zq2_0_1,zq2_1_1)=>
   some ⟨zq2_0_1,zq2_1_1,zo1_1⟩
theorem d74(a0:Int)(a1:List Int){r:GComplex}(hF:F74 a0 a1=some r)(E0:List (Nat×Option (List V)))(c0:Nat){dk du:Nat}(hd0:E0[dk]? =some (du,some (a1.map Enc.enc))):∃v h',res A 74 [V.int .i64 a0,V.sl dk du 0 a1.length 1] ⟨E0,c0⟩=some (v,h')∧r.Prime=a0∧r.Dims=a1∧∃m K,v=V.agg [V.int .i64 r.Prime,V.sl dk du 0 a1.length 1,m]∧Deep.rep h' m r.Maps K∧(∀k,K k→E0.length≤k)∧(∀k,k < E0.length→h'.ents[k]? =E0[k]?)∧E0.length≤h'.ents.length:=by
 have hdk:dk < E0.length:=(List.getElem?_eq_some_iff.1 hd0).1;refine res_dp (f:=p74) rfl rfl rfl fun e hl he=>?_;have h0_0:e.at 0=V.int .i64 a0:=he 0 _ rfl;have h1_0:e.at 1=V.sl dk du 0 a1.length 1:=he 1 _ rfl;have hl_0:e.length=41:=hl;clear he hl;show W A b74 e ⟨E0,c0⟩ _;unfold F74 at hF;obtain⟨t13,gt13,hF⟩:=bS hF;have ws:ans A 73 [V.isl (a1.map Enc.enc)]=some (V.int .i64 (a1.length:Int)):=s73 a1 rfl;simp only[simprocAttr, -Int.reduceNatCast',R0,b74,hl_0,h0_0,h1_0,le1,get_last,ge2a,ge2b,ge3a,ge3b,ge3c,se2a,se2b,se3a,se3b,se3c,set_last];show W A (.block 0 (.loop true b74_1)) _ _ _;rw[W_block];refine W_forR gt13 _ rfl (fun i s e h=> s.2=(a0,a1)∧∃u vs K,h.ents[E0.length]? =some (c0,some [V.int .i64 0,V.nils,V.nils])∧h.ents[E0.length+1]? =some (u,some vs)∧h.ents[E0.length+2]? =some (c0+2,some [V.int .i64 a0,V.sl dk du 0 a1.length 1,V.sl (E0.length+1) u 0 s.1.length 1])∧reps h vs s.1 K∧(∀k,K k→E0.length+3≤k)∧(∀k,k < E0.length→h.ents[k]? =E0[k]?)∧e.length=41∧e.at 1=V.sl dk du 0 a1.length 1∧e.at 4=V.ptr E0.length c0 0∧e.at 5=V.ptr (E0.length+2) (c0+2) 0∧e.at 6=V.int .i64 i) ?_ ?_ ?_
 ·refine⟨rfl,c0+1,[],fun _=> False,ge3a ..,ge3b ..,ge3c ..,fun _ x=> x,fun _ x=> x.elim,fun k q=>?_,?_⟩
  ·rw[List.append_assoc,List.append_assoc]; exact List.getElem?_append_left q
  simp only[simprocAttr, -Int.reduceNatCast',R0,hl_0,h0_0,h1_0]
 ·clear hl_0 h0_0 h1_0
  rintro i ⟨l,q⟩ e ⟨E,c⟩ ⟨rfl,u,vs,K,g1,g2,g3,g4,g5,g6,hl_1,h1_1,h4_1,h5_1,h6_1⟩ hlt hw o ho;unfold F74_1_B at ho;simp only at ho g1 g2 g3 g4 g6;have hDd:E[dk]? =some (du,some (a1.map Enc.enc)):=(g6 dk hdk).trans hd0;have wfz:frz ⟨E,c⟩ 16 (V.sl dk du 0 a1.length 1)=_:=frz_row hDd;obtain⟨x7,gx7,ho⟩:=bS ho;obtain⟨w8a,w8b⟩:=getI_w gx7;have w8c:=getI_lt gx7;have w8d:ofCells none (List.drop (Int.toNat i) (a1.map Enc.enc))=some (V.int .i64 x7):=ofCells_drop (by rw[List.getElem?_map,w8b]; rfl);have hDx:∀x,(E++[x])[dk]? =some (du,some (a1.map Enc.enc)):=fun x=>(List.getElem?_append_left (List.getElem?_eq_some_iff.1 hDd).1).trans hDd;obtain⟨rows,gt20,ho⟩:=bS ho;obtain⟨l22,gl22,ho⟩:=bS ho;obtain⟨q1,q2,rfl⟩:=app_w gl22;have hE:=Option.some.inj ho; subst hE;have hE0:E0.length+2 < E.length:=(List.getElem?_eq_some_iff.1 g3).1;simp only[simprocAttr, -Int.reduceNatCast',R0,b74_1,hl_1,h1_1,h4_1,h5_1,h6_1,eq_true hlt,hw,ws,wfz,w8a,eq_true w8c,w8d,hDd,hDx];refine W.mono (Q:=fun x' e h=> x'= .normal∧∃u' vs' K',h.ents[E.length]? =some (u',some vs')∧reps h vs' rows K'∧(∀k,K' k→E.length+1≤k)∧(∀k,k < E.length→h.ents[k]? =E[k]?)∧e.length=41∧e.at 1=V.sl dk du 0 a1.length 1∧e.at 4=V.ptr E0.length c0 0∧e.at 5=V.ptr (E0.length+2) (c0+2) 0∧e.at 6=V.int .i64 i∧e.at 7=V.sl E.length u' 0 rows.length 1) ?_ ?_
  rotate_left
  ·rintro _ e ⟨E1,c1⟩ ⟨rfl,u',vs',K',f1,f2,f3,f4,hl_2,h1_2,h4_2,h5_2,h6_2,h7_2⟩
   simp only at f1 f4;have hln:=g4.len;have hE1:E.length < E1.length:=(List.getElem?_eq_some_iff.1 f1).1;have m0:=(f4 E0.length (by omega)).trans g1;have m1:=(f4 (E0.length+1) (by omega)).trans g2;have m2:=(f4 (E0.length+2) (by omega)).trans g3;have n2:∀y,(E1++[y])[E0.length+2]? =_:=fun y=>(List.getElem?_append_left (by omega)).trans m2;have n2':∀y z,((E1++[y]).set (E0.length+1) z)[E0.length+2]? =_:=fun y z=>(set_app_new (by omega) (by omega)).trans m2;have w9:∀y c',appendV 1 24 (.sl (E0.length+1) u 0 l.length 1) 1 [V.sl E.length u' 0 rows.length 1] ⟨E1++[y],c'⟩=_:=fun y c'=> appendV_deep (E:=E1++[y]) (vs:=vs) (by rw[List.getElem?_append_left (by omega)]; exact m1) hln (by simpa using q1) (by simpa using q2);simp only[simprocAttr, -Int.reduceNatCast',R0,hl_2,h1_2,h4_2,h5_2,h6_2,h7_2,hw,m2,n2,n2',get_last,w9];have r0:Deep.rep ⟨E1,c1⟩ (V.sl E.length u' 0 rows.length 1) rows (fun k=> k=E.length∨K' k):=rep_at f1 f2 (fun q=> by have:=f3 _ q; omega);have hk:∀k,K k∨(k=E.length∨K' k)→E0.length+3≤k:=fun k q=> q.elim (g5 k) (fun q=> q.elim (fun q=> by omega) (fun q=> by have:=f3 k q; omega));have r1:=deep_round (h:=⟨E,c⟩) (h1:=⟨E1,c1⟩) (h2:=⟨((E1++[(c1,some [V.sl E.length u' 0 rows.length 1])]).set (E0.length+1) (c1+1,some (vs++[V.sl E.length u' 0 rows.length 1]))).set (E0.length+2) (c0+2,some [V.int .i64 a0,V.sl dk du 0 a1.length 1,V.sl (E0.length+1) (c1+1) 0 (l.length+1) 1]),c1+1+1⟩) (K:=K) g4
    r0 (fun k q=> q.elim (fun q=> by show E.length≤k; omega) (fun q=> by have:=f3 k q; show E.length≤k; omega)) f4 (fun k p q=> by
     have:=hk k q;rw[set_ne (by omega)];exact set_app_new (by omega) p) (by show E.length≤E1.length; omega)
   refine ai rfl (ai rfl ⟨c1+1,vs++[V.sl E.length u' 0 rows.length 1],_,?_,?_,?_,r1,hk,fun k q=>?_,?_⟩)
   ·exact(set_ne (by omega)).trans ((set_app_new (by omega) (by omega)).trans m0)
   ·exact(set_ne (by omega)).trans (set_app_key (by simp; omega))
   ·simp only[List.length_append,List.length_cons,List.length_nil,Nat.zero_add]
    exact set_app_key (by simp; omega)
   ·exact(set_ne (by omega)).trans ((set_app_new (by omega) (by omega)).trans ((f4 k (by omega)).trans (g6 k q)))
   ·simp only[simprocAttr, -Int.reduceNatCast',R0,hl_2,h1_2,h4_2,h5_2,h6_2,h7_2,hw]
  show W A (.block 2 (.loop true b74_2)) _ _ _;rw[W_block];refine W_forR gt20 _ rfl (fun j rs e h=>∃u' vs' K',h.ents[E.length]? =some (u',some vs')∧reps h vs' rs K'∧(∀k,K' k→E.length+1≤k)∧(∀k,k < E.length→h.ents[k]? =E[k]?)∧e.length=41∧e.at 1=V.sl dk du 0 a1.length 1∧e.at 4=V.ptr E0.length c0 0∧e.at 5=V.ptr (E0.length+2) (c0+2) 0∧e.at 6=V.int .i64 i∧e.at 7=V.sl E.length u' 0 rs.length 1∧e.at 21=V.int .i64 x7∧e.at 22=V.int .i64 j) ?_ ?_ ?_
  ·refine⟨c,[],fun _=> False,get_last _ _,fun _ x=> x,fun _ x=> x.elim,fun k q=> List.getElem?_append_left q,?_⟩
   simp only[simprocAttr, -Int.reduceNatCast',R0,hl_1,h1_1,h4_1,h5_1,h6_1]
  ·clear hl_1 h1_1 h4_1 h5_1 h6_1
   rintro j rs e ⟨E1,c1⟩ ⟨u',vs',K',f1,f2,f3,f4,hl_1,h1_1,h4_1,h5_1,h6_1,h7_1,h21_1,h22_1⟩ hlt2 hw2 o ho;unfold F74_2_B at ho;obtain⟨x13,gx13,ho⟩:=bS ho;have wx13:=chk_w gx13;obtain⟨x14,gx14,ho⟩:=bS ho;obtain⟨w15a,w15b⟩:=getI_w gx14;have w15c:=getI_lt gx14;have w15d:ofCells none (List.drop (Int.toNat x13) (a1.map Enc.enc))=some (V.int .i64 x14):=ofCells_drop (by rw[List.getElem?_map,w15b]; rfl);obtain⟨l16,gl16,ho⟩:=bS ho;obtain⟨w17a,w17b,w17c,w17d,w17e⟩:=mkL_w gl16;replace w17e:(List.replicate (Int.toNat x14) [V.int .i64 0]).flatten=List.map Enc.enc l16:=w17e;obtain⟨l19,gl19,ho⟩:=bS ho;obtain⟨q1,q2,rfl⟩:=app_w gl19;have hE:=Option.some.inj ho; subst hE;simp only at f1 f4;have hln:=f2.len;have hE1:E.length < E1.length:=(List.getElem?_eq_some_iff.1 f1).1;have hD1:E1[dk]? =some (du,some (a1.map Enc.enc)):=(f4 dk (by omega)).trans hDd;have w9:∀x y c',appendV 1 24 (.sl E.length u' 0 rs.length 1) 1 [V.sl E1.length c1 0 (Int.toNat x14) 1] ⟨E1++[x]++[y],c'⟩=_:=fun x y c'=> appendV_deep (E:=E1++[x]++[y]) (vs:=vs') (by rw[List.getElem?_append_left (by simp; omega),List.getElem?_append_left hE1]; exact f1) hln (by simpa using q1) (by simpa using q2);simp only[simprocAttr, -Int.reduceNatCast',R0,b74_2,hl_1,h1_1,h4_1,h5_1,h6_1,h7_1,h21_1,h22_1,eq_true hlt2,hw2,wx13,w15a,eq_true w15c,w15d,hD1,w17a,w17b,w17c,w17e,get_last,w9];have r0:Deep.rep ⟨E1++[(c1,some (l16.map Enc.enc))],c1+1⟩ (V.sl E1.length c1 0 (Int.toNat x14) 1) l16 (fun k=> k=E1.length):=by
    rw[←w17d]; exact int_row (get_last _ _) fun k=> Iff.rfl
   have r1:=deep_round (h:=⟨E1,c1⟩) (h1:=⟨E1++[(c1,some (l16.map Enc.enc))],c1+1⟩) (h2:=⟨(E1++[(c1,some (l16.map Enc.enc))]++[(c1+1,some [V.sl E1.length c1 0 (Int.toNat x14) 1])]).set E.length (c1+1+1,some (vs'++[V.sl E1.length c1 0 (Int.toNat x14) 1])),c1+1+1+1⟩) f2
    r0 (fun k q=> by show E1.length≤k; omega) (fun k q=> List.getElem?_append_left q) (fun k p q=> set_app_new (fun e=> by subst e; exact q.elim (fun q=> by have:=f3 _ q; omega) (fun q=> by omega)) p) (by simp)
   refine ai rfl ⟨_,_,_,set_app_key (by simp; omega),r1,fun k q=> q.elim (f3 k) (fun q=> by omega),fun k q=>?_,?_⟩
   ·refine(set_app_new (by omega) (by simp; omega)).trans ((List.getElem?_append_left (by omega)).trans (f4 k q))
   ·simp only[simprocAttr, -Int.reduceNatCast',R0,hl_1,h1_1,h4_1,h5_1,h6_1,h7_1,h21_1,h22_1,hw2,List.length_append]
  ·clear hl_1 h1_1 h4_1 h5_1 h6_1
   rintro j rs e ⟨E1,c1⟩ ⟨u',vs',K',f1,f2,f3,f4,hl_1,h1_1,h4_1,h5_1,h6_1,h7_1,h21_1,h22_1⟩ hge t1 ho;have hE:=Option.some.inj ho; subst hE;simp only[simprocAttr, -Int.reduceNatCast',R0,b74_2,hl_1,h1_1,h4_1,h5_1,h6_1,h7_1,h21_1,h22_1,eq_false hge];intro ht; subst ht;exact⟨u',vs',K',f1,f2,f3,f4,rfl⟩
 ·rintro i ⟨l,q⟩ e ⟨E,c⟩ ⟨rfl,u,vs,K,g1,g2,g3,g4,g5,g6,hl_1,h1_1,h4_1,h5_1,h6_1⟩ hge t1 ho
  unfold F74_1_D at ho;have hE:=Option.some.inj ho; subst hE;simp only at hF g1 g2 g3 g4 g6;have hDd:E[dk]? =some (du,some (a1.map Enc.enc)):=(g6 dk hdk).trans hd0;have wfz:frz ⟨E,c⟩ 16 (V.sl dk du 0 a1.length 1)=_:=frz_row hDd;simp only[simprocAttr, -Int.reduceNatCast',R0,b74_1,hl_1,h1_1,h4_1,h5_1,h6_1,eq_false hge,ws,wfz,g1,g2,g3];intro ht; subst ht;have hE:=Option.some.inj hF; subst hE;have hE0:E0.length+2 < E.length:=(List.getElem?_eq_some_iff.1 g3).1;refine ai (fun _=> trivial) ⟨_,by simp only[simprocAttr, -Int.reduceNatCast',R0,fn_out,p74,Rs.ev,hl_1,h4_1,set_app_key (show E0.length < E.length by omega)]; rfl,rfl,rfl,_,_,rfl,rep_at (α:=List (List Int)) (K:=K) ?_ (g4.frame fun k q=> set_ne (by have:=g5 k q; omega)) (fun q=> by have:=g5 _ q; omega),fun k q=> q.elim (fun q=> by omega) (fun q=> by have:=g5 k q; omega),fun k q=>(set_ne (by omega)).trans (g6 k q),by simp; omega⟩;exact(set_ne (by omega)).trans g2
def F75(p:Int)(n r pl v:Int)(s:List (List (List Int))):Option (List (List (List Int))):=
 (chk (n - 1)).bind fun i=>(getI s i).bind fun t=>(getI t r).bind fun row=>(getI row pl).bind fun old=>(chk (old+v)).bind fun a=>(remI a p).bind fun b=>(chk (b+p)).bind fun d=>(remI d p).bind fun z=>
 (setI row pl z).bind fun row'=>(setI t r row').bind fun t'=> setI s i t'
theorem d75{p n r pl v:Int}{dv:V}{s s':List (List (List Int))}(hF:F75 p n r pl v s=some s')(E:List (Nat×Option (List V)))(c:Nat){m:V}{K:Ks}(hr:Deep.rep ⟨E,c⟩ m s K):
  ∃h',res A 75 [V.agg [V.int .i64 p,dv,m],V.int .i64 n,V.int .i64 r,V.int .i64 pl,V.int .i64 v] ⟨E,c⟩=some (V.undef,h')∧Deep.rep h' m s' K∧(∀k,k < E.length→¬K k→h'.ents[k]? =E[k]?)∧E.length≤h'.ents.length:=by
 refine res_ex (f:=p75) rfl rfl rfl fun e hl he=>?_;have h0:e.at 0=V.agg [V.int .i64 p,dv,m]:=he 0 _ rfl;have h1:e.at 1=V.int .i64 n:=he 1 _ rfl;have h2:e.at 2=V.int .i64 r:=he 2 _ rfl;have h3:e.at 3=V.int .i64 pl:=he 3 _ rfl;have h4:e.at 4=V.int .i64 v:=he 4 _ rfl;have hl_0:e.length=38:=hl;clear he hl;show W A b75 e ⟨E,c⟩ _;unfold F75 at hF;obtain⟨i,gi,hF⟩:=bS hF;have wi:=chk_w gi;obtain⟨t,gt,hF⟩:=bS hF;obtain⟨ta,tb⟩:=getI_w gt;have tc:=getI_lt gt;obtain⟨row,gr,hF⟩:=bS hF;obtain⟨ra,rb⟩:=getI_w gr;have rc:=getI_lt gr;obtain⟨old,go,hF⟩:=bS hF;obtain⟨oa,ob⟩:=getI_w go;have oc:=getI_lt go;obtain⟨a,ga,hF⟩:=bS hF;have wa:=chk_w ga;obtain⟨b,gb,hF⟩:=bS hF;obtain⟨wb0,wb⟩:=rem_w gb;obtain⟨d,gd,hF⟩:=bS hF;have wd:=chk_w gd;obtain⟨z,gz,hF⟩:=bS hF;obtain⟨_,wz⟩:=rem_w gz;obtain⟨row',gs,hF⟩:=bS hF;obtain⟨s1,s2,s3,s4,s5⟩:=setI_w gs;obtain⟨t',gt',hF⟩:=bS hF;have st:t'=t.set r.toNat row':=setI_eq gt';have sm:s'=s.set i.toNat t':=setI_eq hF;obtain⟨key,uid,vs,x1,K1,hm,a1,a2,a3,a4,a5,a6⟩:=rep_focus hr tb;obtain⟨key2,uid2,vs2,x2,K2,hx1,b1,b2,b3,b4,b5,b6⟩:=rep_focus a4 rb;rcases row_int b4 with⟨_,rfl,_⟩|⟨key3,uid3,hx2,d1,d2⟩
 ·exact absurd ob (by simp)
 have o1:=ofCells_drop a2;have o2:=ofCells_drop b2;have o3:ofCells none (List.drop pl.toNat (row.map Enc.enc))=some (V.int .i64 old):=ofCells_drop (by rw[List.getElem?_map,ob]; rfl);have s5':List.take pl.toNat (row.map Enc.enc)++[V.int .i64 z]++List.drop (pl.toNat+1) (row.map Enc.enc)=List.map Enc.enc row':=s5;simp only at a1 b1 d1;have k1:key < E.length:=(List.getElem?_eq_some_iff.1 a1).1;have k2:key2 < E.length:=(List.getElem?_eq_some_iff.1 b1).1;have k3:key3 < E.length:=(List.getElem?_eq_some_iff.1 d1).1;have p1:∀x,(E++[x])[key]? =some (uid,some vs):=fun x=>(List.getElem?_append_left k1).trans a1;have p2:∀x,(E++[x])[key2]? =some (uid2,some vs2):=fun x=>(List.getElem?_append_left k2).trans b1;have p3:∀x,(E++[x])[key3]? =some (uid3,some (row.map Enc.enc)):=fun x=>(List.getElem?_append_left k3).trans d1;simp only[simprocAttr,R0,b75,hl_0,h0,h1,h2,h3,h4,get_last,hm,wi,ta,eq_true tc,p1,o1,hx1,ra,eq_true rc,p2,o2,hx2,oa,eq_true oc,p3,o3,wa,wb0,wb,wd,wz,s3,s5'];rw[←hm];have q:∀k,k≠key3→k < E.length→((E++[(c,some [V.int .i64 p,dv,m])]).set key3 (uid3,some (List.map Enc.enc row')))[k]? =E[k]?:=fun k h1 h2=> set_app_new h1 h2;have r0:Deep.rep ⟨(E++[(c,some [V.int .i64 p,dv,m])]).set key3 (uid3,some (List.map Enc.enc row')),c+1⟩ x2 row' K2:=by
  rw[hx2,←s4]; exact int_row (set_app_key (by simp; omega)) d2
 have r1:=b6 _ _ r0 (fun k hk nk=> q k (fun e=> nk ((d2 k).2 e)) (Deep.bd a4 hk));rw[←st]at r1;have r2:=a6 _ _ r1 (fun k hk nk=> q k (fun e=> nk (b5 k ((d2 k).2 e))) (Deep.bd hr hk));rw[←sm]at r2;refine ai (fun _=> trivial) ⟨?_,r2,fun k hk nk=> q k (fun e=> nk (a5 k (b5 k ((d2 k).2 e)))) hk,by simp⟩;simp only[simprocAttr,R1,fn_out,p75,mapO];rfl
def F85{σ:Type}(ms:List (List (List Int)))(f:Int→Int→Int→Int→σ→Option σ)(s:σ):Option σ:=
 forR 0 (ms.length:Int) (fun k s=>(getI ms k).bind fun rows=>(forR 0 (rows.length:Int) (fun i s=>(getI rows i).bind fun row=>
  (forR 0 (row.length:Int) (fun j s=>(getI row j).bind fun v=>(chk (k+1)).bind fun n=>(f n i j v s).bind fun s'=> some (.inl s')) (fun _ s=> some s) s).bind fun s'=> some (.inl s')) (fun _ s=> some s) s).bind fun s'=> some (.inl s')) (fun _ s=> some s) s
structure Step4 (g:Nat) (fs cs:List V) {σ:Type} (S:σ→List (Nat×Option (List V))→Prop) (f:Int→Int→Int→Int→σ→Option σ):Prop where
 call:∀n r p v s s',f n r p v s=some s'→∀E c,S s E→∃E' c',res A g (fs++[V.int .i64 n,V.int .i64 r,V.int .i64 p,V.int .i64 v]++cs) ⟨E,c⟩=some (V.undef,⟨E',c'⟩)∧S s' E'
 pad:∀s E x,S s E→S s (E++[x])
theorem e85{g:Nat}{fs cs:List V}{σ:Type}{S:σ→List (Nat×Option (List V))→Prop}{f:Int→Int→Int→Int→σ→Option σ}(st:Step4 g fs cs S f)(x:GComplex){s s':σ}(hF:F85 x.Maps f s=some s')(E:List (Nat×Option (List V)))(c:Nat)(hS:S s E):
  ∃h',res A 85 [V.agg [V.int .i64 x.Prime,V.isl (List.map Enc.enc x.Dims),V.isl (List.map Enc.enc x.Maps)],V.fn g fs cs] ⟨E,c⟩=some (V.undef,h')∧S s' h'.ents:=by
 refine res_ex (f:=p85) rfl rfl rfl fun e hl he=>?_;have h0:e.at 0=V.agg [V.int .i64 x.Prime,V.isl (List.map Enc.enc x.Dims),V.isl (List.map Enc.enc x.Maps)]:=he 0 _ rfl;have h1:e.at 1=V.fn g fs cs:=he 1 _ rfl;have hl_0:e.length=42:=hl;clear he hl;show W A b85 e ⟨E,c⟩ _;unfold F85 at hF;simp only[simprocAttr, -Int.reduceNatCast',R0,b85,hl_0,h0,h1,get_last,set_last];show W A (.block 0 (.loop true b85_1)) _ _ _;rw[W_block];refine W_forR hF _ rfl (fun i s e h=> S s h.ents∧e.length=42∧e.at 1=V.fn g fs cs∧e.at 11=V.isl (List.map Enc.enc x.Maps)∧e.at 12=V.int .i64 (x.Maps.length:Int)∧e.at 13=V.int .i64 i) ?_ ?_ ?_
 ·refine ai (st.pad _ _ _ hS) ?_
  simp only[simprocAttr, -Int.reduceNatCast',R0,hl_0,h0,h1]
 ·rintro i s e ⟨E,c⟩ ⟨hS,hl_1,h1_1,h11_1,h12_1,h13_1⟩ hlt hw o ho
  obtain⟨rows,g1,ho⟩:=bS ho;obtain⟨w1a,w1b⟩:=getI_w g1;obtain⟨z,g2,ho⟩:=bS ho;have hE:=Option.some.inj ho; subst hE;simp only[simprocAttr, -Int.reduceNatCast',R0,b85_1,hl_1,h1_1,h11_1,h12_1,h13_1,eq_true hlt,hw,w1a,w1b];refine W.mono (Q:=fun x' e h=> x'= .normal∧S z h.ents∧e.length=42∧e.at 1=V.fn g fs cs∧e.at 11=V.isl (List.map Enc.enc x.Maps)∧e.at 12=V.int .i64 (x.Maps.length:Int)∧e.at 13=V.int .i64 i) ?_ ?_
  rotate_left
  ·rintro _ e ⟨E2,c2⟩ ⟨rfl,hS2,hl_2,h1_2,h11_2,h12_2,h13_2⟩
   simp only[simprocAttr, -Int.reduceNatCast',R0,hl_2,h1_2,h11_2,h12_2,h13_2,hw];refine ai rfl (ai hS2 ?_);simp only[simprocAttr, -Int.reduceNatCast',R0,hl_2,h1_2,h11_2,h12_2,h13_2,hw]
  show W A (.block 2 (.loop true b85_2)) _ _ _;rw[W_block];refine W_forR g2 _ rfl (fun j s e h=> S s h.ents∧e.length=42∧e.at 1=V.fn g fs cs∧e.at 11=V.isl (List.map Enc.enc x.Maps)∧e.at 12=V.int .i64 (x.Maps.length:Int)∧e.at 13=V.int .i64 i∧e.at 4=V.int .i64 i∧e.at 18=V.isl (List.map Enc.enc rows)∧e.at 19=V.int .i64 (rows.length:Int)∧e.at 20=V.int .i64 j) ?_ ?_ ?_
  ·refine ai hS ?_
   simp only[simprocAttr, -Int.reduceNatCast',R0,hl_1,h1_1,h11_1,h12_1,h13_1]
  ·clear hl_1 h1_1 h11_1 h12_1 h13_1
   rintro j s e ⟨E,c⟩ ⟨hS,hl_1,h1_1,h11_1,h12_1,h13_1,h4_1,h18_1,h19_1,h20_1⟩ hlt2 hw2 o ho;obtain⟨row,g3,ho⟩:=bS ho;obtain⟨w3a,w3b⟩:=getI_w g3;obtain⟨z2,g4,ho⟩:=bS ho;have hE:=Option.some.inj ho; subst hE;simp only[simprocAttr, -Int.reduceNatCast',R0,b85_2,hl_1,h1_1,h11_1,h12_1,h13_1,h4_1,h18_1,h19_1,h20_1,eq_true hlt2,hw2,w3a,w3b];refine W.mono (Q:=fun x' e h=> x'= .normal∧S z2 h.ents∧e.length=42∧e.at 1=V.fn g fs cs∧e.at 11=V.isl (List.map Enc.enc x.Maps)∧e.at 12=V.int .i64 (x.Maps.length:Int)∧e.at 13=V.int .i64 i∧e.at 4=V.int .i64 i∧e.at 18=V.isl (List.map Enc.enc rows)∧e.at 19=V.int .i64 (rows.length:Int)∧e.at 20=V.int .i64 j) ?_ ?_
   rotate_left
   ·rintro _ e ⟨E2,c2⟩ ⟨rfl,hS2,hl_2,h1_2,h11_2,h12_2,h13_2,h4_2,h18_2,h19_2,h20_2⟩
    simp only[simprocAttr, -Int.reduceNatCast',R0,hl_2,h1_2,h11_2,h12_2,h13_2,h4_2,h18_2,h19_2,h20_2,hw2];refine ai rfl (ai hS2 ?_);simp only[simprocAttr, -Int.reduceNatCast',R0,hl_2,h1_2,h11_2,h12_2,h13_2,h4_2,h18_2,h19_2,h20_2,hw2]
   show W A (.block 4 (.loop true b85_3)) _ _ _;rw[W_block];refine W_forR g4 _ rfl (fun k s e h=> S s h.ents∧e.length=42∧e.at 1=V.fn g fs cs∧e.at 11=V.isl (List.map Enc.enc x.Maps)∧e.at 12=V.int .i64 (x.Maps.length:Int)∧e.at 13=V.int .i64 i∧e.at 4=V.int .i64 i∧e.at 18=V.isl (List.map Enc.enc rows)∧e.at 19=V.int .i64 (rows.length:Int)∧e.at 20=V.int .i64 j∧e.at 6=V.int .i64 j∧e.at 25=V.isl (List.map Enc.enc row)∧e.at 26=V.int .i64 (row.length:Int)∧e.at 27=V.int .i64 k) ?_ ?_ ?_
   ·refine ai hS ?_
    simp only[simprocAttr, -Int.reduceNatCast',R0,hl_1,h1_1,h11_1,h12_1,h13_1,h4_1,h18_1,h19_1,h20_1]
   ·clear hl_1 h1_1 h11_1 h12_1 h13_1 h4_1 h18_1 h19_1 h20_1
    rintro k s e ⟨E,c⟩ ⟨hS,hl_1,h1_1,h11_1,h12_1,h13_1,h4_1,h18_1,h19_1,h20_1,h6_1,h25_1,h26_1,h27_1⟩ hlt3 hw3 o ho;obtain⟨v,g5,ho⟩:=bS ho;obtain⟨w5a,w5b⟩:=getI_w g5;obtain⟨n,g6,ho⟩:=bS ho;have w6:=chk_w g6;obtain⟨s2,g7,ho⟩:=bS ho;have hE:=Option.some.inj ho; subst hE;obtain⟨E2,c2,hr,hS2⟩:=st.call _ _ _ _ _ _ g7 E c hS;simp only[simprocAttr, -Int.reduceNatCast',R0,b85_3,hl_1,h1_1,h11_1,h12_1,h13_1,h4_1,h18_1,h19_1,h20_1,h6_1,h25_1,h26_1,h27_1,eq_true hlt3,hw3,w5a,w5b,w6,callM_plain_eq,List.append_assoc]at hr ⊢;simp only[simprocAttr, -Int.reduceNatCast',R0,hr,hl_1,h1_1,h11_1,h12_1,h13_1,h4_1,h18_1,h19_1,h20_1,h6_1,h25_1,h26_1,h27_1,eq_true hlt3,hw3];refine ai rfl (ai hS2 ?_);simp only[simprocAttr, -Int.reduceNatCast',R0,hl_1,h1_1,h11_1,h12_1,h13_1,h4_1,h18_1,h19_1,h20_1,h6_1,h25_1,h26_1,h27_1,hw3]
   ·clear hl_1 h1_1 h11_1 h12_1 h13_1 h4_1 h18_1 h19_1 h20_1
    rintro k s e ⟨E,c⟩ ⟨hS,hl_1,h1_1,h11_1,h12_1,h13_1,h4_1,h18_1,h19_1,h20_1,h6_1,h25_1,h26_1,h27_1⟩ hge t1 ho;have hE:=Option.some.inj ho; subst hE;simp only[simprocAttr, -Int.reduceNatCast',R0,b85_3,hl_1,h1_1,h11_1,h12_1,h13_1,h4_1,h18_1,h19_1,h20_1,h6_1,h25_1,h26_1,h27_1,eq_false hge];intro ht; subst ht;exact hS
  ·clear hl_1 h1_1 h11_1 h12_1 h13_1
   rintro j s e ⟨E,c⟩ ⟨hS,hl_1,h1_1,h11_1,h12_1,h13_1,h4_1,h18_1,h19_1,h20_1⟩ hge t1 ho;have hE:=Option.some.inj ho; subst hE;simp only[simprocAttr, -Int.reduceNatCast',R0,b85_2,hl_1,h1_1,h11_1,h12_1,h13_1,h4_1,h18_1,h19_1,h20_1,eq_false hge];intro ht; subst ht;exact hS
 ·rintro i s e ⟨E,c⟩ ⟨hS,hl_1,h1_1,h11_1,h12_1,h13_1⟩ hge t1 ho
  have hE:=Option.some.inj ho; subst hE;simp only[simprocAttr, -Int.reduceNatCast',R0,b85_1,hl_1,h1_1,h11_1,h12_1,h13_1,eq_false hge];intro ht; subst ht;refine ai (fun i=> by simp only[ne_eq,reduceCtorEq,not_false_eq_true]) (ai ?_ hS);simp only[simprocAttr, -Int.reduceNatCast',R1,fn_out,p85,mapO];rfl
def F277(p:Int)(y:GComplex)(n r pl v:Int)(s:List (List (List Int))):Option (List (List (List Int))):=
 (chk (n+1)).bind fun n1=>(F102 y n1).bind fun d1=>(chk (d1+r)).bind fun r1=>(F102 y n).bind fun d0=>(chk (d0+pl)).bind fun p1=>(chk (0 - v)).bind fun w=> F75 p n1 r1 p1 w s
def S277(p:Int)(dv m:V)(N c1:Nat)(K:Ks)(R:List (Nat×Option (List V))→Prop)(s:List (List (List Int)))(E:List (Nat×Option (List V))):Prop:=
 Deep.rep ⟨E,0⟩ m s K∧R E∧E[N]? =some (c1,some [V.int .i64 p,dv,m])
theorem sp277{p:Int}{dv m:V}{N c1:Nat}{K:Ks}{R:List (Nat×Option (List V))→Prop}(hR:∀E E',R E→(∀k,k < E.length→¬K k→E'[k]? =E[k]?)→R E'){s:List (List (List Int))}{E:List (Nat×Option (List V))}{x:Nat×Option (List V)}(h:S277 p dv m N c1 K R s E):S277 p dv m N c1 K R s (E++[x]):=by
 obtain⟨h1,h2,h3⟩:=h;exact⟨Deep.frame h1 fun k q=> List.getElem?_append_left (Deep.bd h1 q),hR E _ h2 fun k q _=> List.getElem?_append_left q,(List.getElem?_append_left (List.getElem?_eq_some_iff.1 h3).1).trans h3⟩
theorem sc277{p:Int}{dv m:V}{N c1:Nat}{K:Ks}{R:List (Nat×Option (List V))→Prop}(hN:¬K N)(hR:∀E E',R E→(∀k,k < E.length→¬K k→E'[k]? =E[k]?)→R E'){n r pl v:Int}{s s':List (List (List Int))}(hF:F75 p n r pl v s=some s'){E:List (Nat×Option (List V))}(c:Nat)(h:S277 p dv m N c1 K R s E):
  ∃E' c',res A 75 [V.agg [V.int .i64 p,dv,m],V.int .i64 n,V.int .i64 r,V.int .i64 pl,V.int .i64 v] ⟨E,c⟩=some (V.undef,⟨E',c'⟩)∧S277 p dv m N c1 K R s' E':=by
 obtain⟨h1,h2,h3⟩:=h;have r1:Deep.rep ⟨E,c⟩ m s K:=Deep.frame h1 fun _ _=> rfl;obtain⟨⟨E',c'⟩,q1,q2,q3,q4⟩:=d75 (dv:=dv) hF E c r1;exact⟨E',c',q1,Deep.frame q2 fun _ _=> rfl,hR E E' h2 q3,(q3 N (List.getElem?_eq_some_iff.1 h3).1 hN).trans h3⟩
theorem sa277(p:Int)(dv m:V)(N c1:Nat)(K:Ks)(R:List (Nat×Option (List V))→Prop)(hN:¬K N)(hR:∀E E',R E→(∀k,k < E.length→¬K k→E'[k]? =E[k]?)→R E'):Step4 75 [V.agg [V.int .i64 p,dv,m]] [] (S277 p dv m N c1 K R) (fun n r pl v s=> F75 p n r pl v s) where
 call:=fun n r pl v s s' hF E c h=> sc277 hN hR hF c h
 pad:=fun s E x h=> sp277 hR h
theorem st277(y:GComplex)(p:Int)(dv m:V)(N c1:Nat)(K:Ks)(R:List (Nat×Option (List V))→Prop)(hN:¬K N)(hR:∀E E',R E→(∀k,k < E.length→¬K k→E'[k]? =E[k]?)→R E'):Step4 277 [] [V.ptr N c1 0,V.iptr [V.int .i64 y.Prime,V.isl (y.Dims.map Enc.enc),V.isl (y.Maps.map Enc.enc)]] (S277 p dv m N c1 K R) (fun n r pl v s=> F277 p y n r pl v s) where
 call:=by
  rintro n r pl v s s' hF E c h;have h3:=h.2.2;unfold F277 at hF;obtain⟨n1,gn1,hF⟩:=bS hF;have wn1:=chk_w gn1;obtain⟨d1,gd1,hF⟩:=bS hF;have wd1:ans A 102 [(eC y),V.int .i64 n1]=some (V.int .i64 d1):=s102 y n1 gd1;obtain⟨r1,gr1,hF⟩:=bS hF;have wr1:=chk_w gr1;obtain⟨d0,gd0,hF⟩:=bS hF;have wd0:ans A 102 [(eC y),V.int .i64 n]=some (V.int .i64 d0):=s102 y n gd0;obtain⟨p1,gp1,hF⟩:=bS hF;have wp1:=chk_w gp1;obtain⟨w,gw,hF⟩:=bS hF;have ww:=chk_w gw;obtain⟨E',c',q1,q2⟩:=sc277 hN hR hF c h;have key:∃h',res A 277 [V.int .i64 n,V.int .i64 r,V.int .i64 pl,V.int .i64 v,V.ptr N c1 0,V.iptr [V.int .i64 y.Prime,V.isl (y.Dims.map Enc.enc),V.isl (y.Maps.map Enc.enc)]] ⟨E,c⟩=some (V.undef,h')∧h'=⟨E',c'⟩:=by
   refine res_ex (f:=p277) rfl rfl rfl fun e hl he=>?_;have h0_0:e.at 0=V.int .i64 n:=he 0 _ rfl;have h1_0:e.at 1=V.int .i64 r:=he 1 _ rfl;have h2_0:e.at 2=V.int .i64 pl:=he 2 _ rfl;have h3_0:e.at 3=V.int .i64 v:=he 3 _ rfl;have h4_0:e.at 4=V.ptr N c1 0:=he 4 _ rfl;have h5_0:e.at 5=V.iptr [V.int .i64 y.Prime,V.isl (y.Dims.map Enc.enc),V.isl (y.Maps.map Enc.enc)]:=he 5 _ rfl;have hl_0:e.length=27:=hl;clear he hl;show W A b277 e ⟨E,c⟩ _;simp only[simprocAttr,R0,b277,hl_0,h0_0,h1_0,h2_0,h3_0,h4_0,h5_0,h3,wn1,wd1,wr1,wd0,wp1,ww,callM_plain_eq,q1];refine ai (fun _=> trivial) ?_;simp only[simprocAttr,R1,fn_out,p277,mapO];rfl
  obtain⟨_,k1,rfl⟩:=key;exact⟨E',c',k1,q2⟩
 pad:=fun s E x h=> sp277 hR h
def F245_1_B(x y:GComplex)(i:Int)(s:List Int):Option (List Int⊕List Int):=(F102 y i).bind fun a=>(chk (i - 1)).bind fun j=>(F102 x j).bind fun b=>(chk (a+b)).bind fun d=>(app 8 s [d]).bind fun r=> some (.inl r)
def F245_1_D(i:Int)(s:List Int):Option (List Int):=some s
def F245_3(p:Int)(y:GComplex)(n r pl v:Int)(s:List (List (List Int))):Option (List (List (List Int))):=(F102 y n).bind fun d=>(chk (d+r)).bind fun r1=> F75 p n r1 pl v s
def F245(x y:GComplex)(f:List (List (List Int))):Option GComplex:=(chk ((x.Dims.length:Int)+1)).bind fun l=>(forR 0 l (F245_1_B x y) F245_1_D []).bind fun d=>(F74 x.Prime d).bind fun b=>(F85 y.Maps (fun n r pl v s=> F75 b.Prime n r pl v s) b.Maps).bind fun m1=>(F85 x.Maps (fun n r pl v s=> F277 b.Prime y n r pl v s) m1).bind fun m2=>(F85 f (fun n r pl v s=> F245_3 b.Prime y n r pl v s) m2).bind fun m3=> some ⟨b.Prime,b.Dims,m3⟩
theorem l245_2(x y:GComplex)(f:List (List (List Int))){p:Int}{dv m:V}{N c1:Nat}{K:Ks}{R:List (Nat×Option (List V))→Prop}(hN:¬K N)(hR:∀E E',R E→(∀k,k < E.length→¬K k→E'[k]? =E[k]?)→R E'){s s':List (List (List Int))}(hF:F85 f (fun n r pl v s=> F245_3 p y n r pl v s) s=some s'){e:Env}{h:Heap}(hS:S277 p dv m N c1 K R s h.ents)
  (hl:e.length=84) (h4:e.at 4=V.iptr [V.int .i64 y.Prime,V.isl (y.Dims.map Enc.enc),V.isl (y.Maps.map Enc.enc)]) (h6:e.at 6=V.ptr 2 2 0) (h9:e.at 9=V.ptr N c1 0) (h47:e.at 47=V.isl (f.map Enc.enc)) (h48:e.at 48=V.int .i64 (f.length:Int)) (h49:e.at 49=V.int .i64 0):
  W A (.block 2 (.loop true b245_2)) e h (fun x e h=> x= .normal∧S277 p dv m N c1 K R s' h.ents∧e.length=84∧e.at 6=V.ptr 2 2 0∧e.at 9=V.ptr N c1 0):=by
 unfold F85 at hF;rw[W_block];refine W_forR hF _ rfl (fun i s e h=> S277 p dv m N c1 K R s h.ents∧e.length=84∧e.at 4=V.iptr [V.int .i64 y.Prime,V.isl (y.Dims.map Enc.enc),V.isl (y.Maps.map Enc.enc)]∧e.at 6=V.ptr 2 2 0∧e.at 9=V.ptr N c1 0∧e.at 47=V.isl (f.map Enc.enc)∧e.at 48=V.int .i64 (f.length:Int)∧e.at 49=V.int .i64 i) ⟨hS,hl,h4,h6,h9,h47,h48,h49⟩ ?_ ?_
 ·clear hS hl h4 h6 h9 h47 h48 h49
  rintro i s e ⟨E,c⟩ ⟨hS,hl_1,h4_1,h6_1,h9_1,h47_1,h48_1,h49_1⟩ hlt hw o ho;obtain⟨rows,g1,ho⟩:=bS ho;obtain⟨w1a,w1b⟩:=getI_w g1;obtain⟨z,g2,ho⟩:=bS ho;have hE:=Option.some.inj ho; subst hE;simp only[simprocAttr, -Int.reduceNatCast',R0,b245_2,hl_1,h4_1,h6_1,h9_1,h47_1,h48_1,h49_1,eq_true hlt,hw,w1a,w1b];refine W.mono (Q:=fun x' e h=> x'= .normal∧S277 p dv m N c1 K R z h.ents∧e.length=84∧e.at 4=V.iptr [V.int .i64 y.Prime,V.isl (y.Dims.map Enc.enc),V.isl (y.Maps.map Enc.enc)]∧e.at 6=V.ptr 2 2 0∧e.at 9=V.ptr N c1 0∧e.at 47=V.isl (f.map Enc.enc)∧e.at 48=V.int .i64 (f.length:Int)∧e.at 49=V.int .i64 i) ?_ ?_
  rotate_left
  ·rintro _ e ⟨E2,c2⟩ ⟨rfl,hS2,hl_2,h4_2,h6_2,h9_2,h47_2,h48_2,h49_2⟩
   simp only[simprocAttr, -Int.reduceNatCast',R0,hl_2,h4_2,h6_2,h9_2,h47_2,h48_2,h49_2,hw];refine ai rfl (ai hS2 ?_);simp only[simprocAttr, -Int.reduceNatCast',R0,hl_2,h4_2,h6_2,h9_2,h47_2,h48_2,h49_2,hw]
  show W A (.block 4 (.loop true b245_3)) _ _ _;rw[W_block];refine W_forR g2 _ rfl (fun j s e h=> S277 p dv m N c1 K R s h.ents∧e.length=84∧e.at 4=V.iptr [V.int .i64 y.Prime,V.isl (y.Dims.map Enc.enc),V.isl (y.Maps.map Enc.enc)]∧e.at 6=V.ptr 2 2 0∧e.at 9=V.ptr N c1 0∧e.at 47=V.isl (f.map Enc.enc)∧e.at 48=V.int .i64 (f.length:Int)∧e.at 49=V.int .i64 i∧e.at 10=V.int .i64 i∧e.at 54=V.isl (rows.map Enc.enc)∧e.at 55=V.int .i64 (rows.length:Int)∧e.at 56=V.int .i64 j) ?_ ?_ ?_
  ·refine ai hS ?_
   simp only[simprocAttr, -Int.reduceNatCast',R0,hl_1,h4_1,h6_1,h9_1,h47_1,h48_1,h49_1]
  ·clear hl_1 h4_1 h6_1 h9_1 h47_1 h48_1 h49_1
   rintro j s e ⟨E,c⟩ ⟨hS,hl_1,h4_1,h6_1,h9_1,h47_1,h48_1,h49_1,h10_1,h54_1,h55_1,h56_1⟩ hlt2 hw2 o ho;obtain⟨row,g3,ho⟩:=bS ho;obtain⟨w3a,w3b⟩:=getI_w g3;obtain⟨z2,g4,ho⟩:=bS ho;have hE:=Option.some.inj ho; subst hE;simp only[simprocAttr, -Int.reduceNatCast',R0,b245_3,hl_1,h4_1,h6_1,h9_1,h47_1,h48_1,h49_1,h10_1,h54_1,h55_1,h56_1,eq_true hlt2,hw2,w3a,w3b];refine W.mono (Q:=fun x' e h=> x'= .normal∧S277 p dv m N c1 K R z2 h.ents∧e.length=84∧e.at 4=V.iptr [V.int .i64 y.Prime,V.isl (y.Dims.map Enc.enc),V.isl (y.Maps.map Enc.enc)]∧e.at 6=V.ptr 2 2 0∧e.at 9=V.ptr N c1 0∧e.at 47=V.isl (f.map Enc.enc)∧e.at 48=V.int .i64 (f.length:Int)∧e.at 49=V.int .i64 i∧e.at 10=V.int .i64 i∧e.at 54=V.isl (rows.map Enc.enc)∧e.at 55=V.int .i64 (rows.length:Int)∧e.at 56=V.int .i64 j) ?_ ?_
   rotate_left
   ·rintro _ e ⟨E2,c2⟩ ⟨rfl,hS2,hl_2,h4_2,h6_2,h9_2,h47_2,h48_2,h49_2,h10_2,h54_2,h55_2,h56_2⟩
    simp only[simprocAttr, -Int.reduceNatCast',R0,hl_2,h4_2,h6_2,h9_2,h47_2,h48_2,h49_2,h10_2,h54_2,h55_2,h56_2,hw2];refine ai rfl (ai hS2 ?_);simp only[simprocAttr, -Int.reduceNatCast',R0,hl_2,h4_2,h6_2,h9_2,h47_2,h48_2,h49_2,h10_2,h54_2,h55_2,h56_2,hw2]
   show W A (.block 6 (.loop true b245_4)) _ _ _;rw[W_block];refine W_forR g4 _ rfl (fun k s e h=> S277 p dv m N c1 K R s h.ents∧e.length=84∧e.at 4=V.iptr [V.int .i64 y.Prime,V.isl (y.Dims.map Enc.enc),V.isl (y.Maps.map Enc.enc)]∧e.at 6=V.ptr 2 2 0∧e.at 9=V.ptr N c1 0∧e.at 47=V.isl (f.map Enc.enc)∧e.at 48=V.int .i64 (f.length:Int)∧e.at 49=V.int .i64 i∧e.at 10=V.int .i64 i∧e.at 12=V.int .i64 j∧e.at 54=V.isl (rows.map Enc.enc)∧e.at 55=V.int .i64 (rows.length:Int)∧e.at 56=V.int .i64 j∧e.at 61=V.isl (row.map Enc.enc)∧e.at 62=V.int .i64 (row.length:Int)∧e.at 63=V.int .i64 k) ?_ ?_ ?_
   ·refine ai hS ?_
    simp only[simprocAttr, -Int.reduceNatCast',R0,hl_1,h4_1,h6_1,h9_1,h47_1,h48_1,h49_1,h10_1,h54_1,h55_1,h56_1]
   ·clear hl_1 h4_1 h6_1 h9_1 h47_1 h48_1 h49_1 h10_1 h54_1 h55_1 h56_1
    rintro k s e ⟨E,c⟩ ⟨hS,hl_1,h4_1,h6_1,h9_1,h47_1,h48_1,h49_1,h10_1,h12_1,h54_1,h55_1,h56_1,h61_1,h62_1,h63_1⟩ hlt3 hw3 o ho;obtain⟨v,g5,ho⟩:=bS ho;obtain⟨w5a,w5b⟩:=getI_w g5;obtain⟨n,g6,ho⟩:=bS ho;have w6:=chk_w g6;obtain⟨s2,g7,ho⟩:=bS ho;have hE:=Option.some.inj ho; subst hE;unfold F245_3 at g7;obtain⟨d,gd,g7⟩:=bS g7;have wd:ans A 102 [(eC y),V.int .i64 n]=some (V.int .i64 d):=s102 y n gd;obtain⟨r1,gr1,g7⟩:=bS g7;have wr1:=chk_w gr1;obtain⟨E2,c2,hr,hS2⟩:=sc277 hN hR g7 c hS;have h3:=hS.2.2;simp only at h3;simp only[simprocAttr, -Int.reduceNatCast',R0,b245_4,hl_1,h4_1,h6_1,h9_1,h47_1,h48_1,h49_1,h10_1,h12_1,h54_1,h55_1,h56_1,h61_1,h62_1,h63_1,eq_true hlt3,hw3,w5a,w5b,w6,h3,wd,wr1,callM_plain_eq,hr];refine ai rfl (ai hS2 ?_);simp only[simprocAttr, -Int.reduceNatCast',R0,hl_1,h4_1,h6_1,h9_1,h47_1,h48_1,h49_1,h10_1,h12_1,h54_1,h55_1,h56_1,h61_1,h62_1,h63_1,hw3]
   ·clear hl_1 h4_1 h6_1 h9_1 h47_1 h48_1 h49_1 h10_1 h54_1 h55_1 h56_1
    rintro k s e ⟨E,c⟩ ⟨hS,hl_1,h4_1,h6_1,h9_1,h47_1,h48_1,h49_1,h10_1,h12_1,h54_1,h55_1,h56_1,h61_1,h62_1,h63_1⟩ hge t1 ho;have hE:=Option.some.inj ho; subst hE;simp only[simprocAttr, -Int.reduceNatCast',R0,b245_4,hl_1,h4_1,h6_1,h9_1,h47_1,h48_1,h49_1,h10_1,h12_1,h54_1,h55_1,h56_1,h61_1,h62_1,h63_1,eq_false hge];intro ht; subst ht;exact hS
  ·clear hl_1 h4_1 h6_1 h9_1 h47_1 h48_1 h49_1
   rintro j s e ⟨E,c⟩ ⟨hS,hl_1,h4_1,h6_1,h9_1,h47_1,h48_1,h49_1,h10_1,h54_1,h55_1,h56_1⟩ hge t1 ho;have hE:=Option.some.inj ho; subst hE;simp only[simprocAttr, -Int.reduceNatCast',R0,b245_3,hl_1,h4_1,h6_1,h9_1,h47_1,h48_1,h49_1,h10_1,h54_1,h55_1,h56_1,eq_false hge];intro ht; subst ht;exact hS
 ·clear hS hl h4 h6 h9 h47 h48 h49
  rintro i s e ⟨E,c⟩ ⟨hS,hl_1,h4_1,h6_1,h9_1,h47_1,h48_1,h49_1⟩ hge t1 ho;have hE:=Option.some.inj ho; subst hE;simp only[simprocAttr, -Int.reduceNatCast',R0,b245_2,hl_1,h4_1,h6_1,h9_1,h47_1,h48_1,h49_1,eq_false hge];intro ht; subst ht;exact hS
theorem d245(x y:GComplex)(f:List (List (List Int))){r:GComplex}(hF:F245 x y f=some r):∃v h',res A 245 [(eC x),(eC y),V.isl (f.map Enc.enc)] Heap.empty=some (v,h')∧∃K,Deep.rep h' v r K:=by
 refine res_dp (f:=p245) rfl rfl rfl fun e hl he=>?_;have h0_0:e.at 0=(eC x):=he 0 _ rfl;have h1_0:e.at 1=(eC y):=he 1 _ rfl;have h2_0:e.at 2=V.isl (f.map Enc.enc):=he 2 _ rfl;have hl_0:e.length=84:=hl;clear he hl;show W A b245 e ⟨[],0⟩ _;unfold F245 at hF;obtain⟨l,gl,hF⟩:=bS hF;have wl:=chk_w gl;have ws:ans A 73 [V.isl (x.Dims.map Enc.enc)]=some (V.int .i64 (x.Dims.length:Int)):=s73 x.Dims rfl;obtain⟨d,gd,hF⟩:=bS hF;obtain⟨o,go,hF⟩:=bS hF;obtain⟨m1,gm1,hF⟩:=bS hF;obtain⟨m2,gm2,hF⟩:=bS hF;obtain⟨m3,gm3,hF⟩:=bS hF;have hE:=Option.some.inj hF; subst hE;simp only[simprocAttr, -Int.reduceNatCast',R0,b245,hl_0,h0_0,h1_0,h2_0,ws,wl];refine W.mono (Q:=fun x' e h=> x'= .normal∧e.length=84∧e.at 2=V.isl (f.map Enc.enc)∧e.at 3=V.iptr [V.int .i64 x.Prime,V.isl (x.Dims.map Enc.enc),V.isl (x.Maps.map Enc.enc)]∧e.at 4=V.iptr [V.int .i64 y.Prime,V.isl (y.Dims.map Enc.enc),V.isl (y.Maps.map Enc.enc)]∧e.at 6=V.ptr 2 2 0∧h.ents[2]? =some (2,some [V.int .i64 0,V.nils,V.nils])∧∃u,h.ents[3]? =some (u,some (d.map Enc.enc))∧e.at 7=V.sl 3 u 0 d.length 1) ?_ ?_
 ·show W A (.block 0 (.loop true b245_1)) _ _ _
  rw[W_block];refine W_forR gd _ rfl (fun i s e h=> e.length=84∧e.at 2=V.isl (f.map Enc.enc)∧e.at 3=V.iptr [V.int .i64 x.Prime,V.isl (x.Dims.map Enc.enc),V.isl (x.Maps.map Enc.enc)]∧e.at 4=V.iptr [V.int .i64 y.Prime,V.isl (y.Dims.map Enc.enc),V.isl (y.Maps.map Enc.enc)]∧e.at 6=V.ptr 2 2 0∧e.at 20=V.int .i64 l∧e.at 21=V.int .i64 i∧h.ents[2]? =some (2,some [V.int .i64 0,V.nils,V.nils])∧∃u,h.ents[3]? =some (u,some (s.map Enc.enc))∧e.at 7=V.sl 3 u 0 s.length 1) ?_ ?_ ?_
  ·simp only[simprocAttr, -Int.reduceNatCast',R0,hl_0,h0_0,h1_0,h2_0]
   exact⟨3,rfl,rfl⟩
  ·clear hl_0 h0_0 h1_0 h2_0
   rintro i s e ⟨E,c⟩ ⟨hl_1,h2_1,h3_1,h4_1,h6_1,h20_1,h21_1,g2,u,g3,h7_1⟩ hlt hw s' ho;simp only at g2 g3;unfold F245_1_B at ho;obtain⟨a,ga,ho⟩:=bS ho;have wa:ans A 102 [(eC y),V.int .i64 i]=some (V.int .i64 a):=s102 y i ga;obtain⟨j,gj,ho⟩:=bS ho;have wj:=chk_w gj;obtain⟨b,gb,ho⟩:=bS ho;have wb:ans A 102 [(eC x),V.int .i64 j]=some (V.int .i64 b):=s102 x j gb;obtain⟨d1,gd1,ho⟩:=bS ho;have wd1:=chk_w gd1;obtain⟨l2,gl2,ho⟩:=bS ho;have hE:=Option.some.inj ho; subst hE;have h3l:3 < E.length:=(List.getElem?_eq_some_iff.1 g3).1;have g3':(E++[(c,some [V.int .i64 d1])])[3]? =some (u,some (s.map Enc.enc)):=(List.getElem?_append_left h3l).trans g3;have wap:=appendV_w (α:=Int) (n:=s.length) (m:=1) (ds:=[V.int .i64 d1]) gl2 rfl rfl rfl (E++[(c,some [V.int .i64 d1])]) 3 u (c+1) g3';simp only[simprocAttr, -Int.reduceNatCast',R0,b245_1,hl_1,h2_1,h3_1,h4_1,h6_1,h7_1,h20_1,h21_1,eq_true hlt,hw,wa,wj,wb,wd1,get_last,wap];refine ai rfl ?_;simp only[simprocAttr, -Int.reduceNatCast',R0,hl_1,h2_1,h3_1,h4_1,h6_1,h7_1,h20_1,h21_1,hw];exact⟨(set_ne (by decide)).trans ((List.getElem?_append_left (by omega)).trans g2),_,set_app_key (by simp; omega),rfl⟩
  ·clear hl_0 h0_0 h1_0 h2_0
   rintro i s e ⟨E,c⟩ ⟨hl_1,h2_1,h3_1,h4_1,h6_1,h20_1,h21_1,g2,u,g3,h7_1⟩ hge t1 ho;unfold F245_1_D at ho;have hE:=Option.some.inj ho; subst hE;simp only[simprocAttr, -Int.reduceNatCast',R0,b245_1,hl_1,h2_1,h3_1,h4_1,h6_1,h7_1,h20_1,h21_1,eq_false hge];intro ht; subst ht;exact⟨g2,u,g3,rfl⟩
 clear hl_0 h0_0 h1_0 h2_0;rintro _ e ⟨E0,c0⟩ ⟨rfl,hl_0,h2_0,h3_0,h4_0,h6_0,g2,u,g3,h7_0⟩;simp only at g2 g3;have h3l:3 < E0.length:=(List.getElem?_eq_some_iff.1 g3).1;obtain⟨_,⟨E1,c1⟩,w1,e1,e2,m,K,rfl,t1,t2,t3,t4⟩:=d74 x.Prime d go E0 c0 g3;simp only at t3 t4;have a2:E1[2]? =some (2,some [V.int .i64 0,V.nils,V.nils]):=(t3 2 (by omega)).trans g2;have a3:E1[3]? =some (u,some (d.map Enc.enc)):=(t3 3 h3l).trans g3;have hKN:¬K E1.length:=fun q=> by have:=Deep.bd t1 q; simp at this
 have hR:∀E E',(fun E:List (Nat×Option (List V))=> E[2]? =some (2,some [V.int .i64 0,V.nils,V.nils])∧E[3]? =some (u,some (d.map Enc.enc))) E→(∀k,k < E.length→¬K k→E'[k]? =E[k]?)→(fun E:List (Nat×Option (List V))=> E[2]? =some (2,some [V.int .i64 0,V.nils,V.nils])∧E[3]? =some (u,some (d.map Enc.enc))) E':=fun E E' h hk=>
  ⟨(hk 2 (List.getElem?_eq_some_iff.1 h.1).1 (fun q=> by have:=t2 _ q; omega)).trans h.1,(hk 3 (List.getElem?_eq_some_iff.1 h.2).1 (fun q=> by have:=t2 _ q; omega)).trans h.2⟩
 have S0:S277 o.Prime (V.sl 3 u 0 d.length 1) m E1.length c1 K (fun E:List (Nat×Option (List V))=> E[2]? =some (2,some [V.int .i64 0,V.nils,V.nils])∧E[3]? =some (u,some (d.map Enc.enc))) o.Maps (E1++[(c1,some [V.int .i64 o.Prime,V.sl 3 u 0 d.length 1,m])]):=
  ⟨Deep.frame t1 fun k q=> List.getElem?_append_left (Deep.bd t1 q),⟨(List.getElem?_append_left (by omega)).trans a2,(List.getElem?_append_left (by omega)).trans a3⟩,get_last _ _⟩
 obtain⟨⟨E2,c2⟩,w2,S1⟩:=e85 (sa277 o.Prime (V.sl 3 u 0 d.length 1) m E1.length c1 K _ hKN hR) y gm1 _ (c1+1) S0;simp only at S1;obtain⟨⟨E3,c3⟩,w3,S2⟩:=e85 (st277 y o.Prime (V.sl 3 u 0 d.length 1) m E1.length c1 K _ hKN hR) x gm2 E2 c2 S1;simp only at S2;have b1:=S1.2.2;simp only[simprocAttr, -Int.reduceNatCast',R0,hl_0,h2_0,h3_0,h4_0,h6_0,h7_0,callM_plain_eq,w1,get_last,set_last,w2,w3];refine W.mono (l245_2 x y f hKN hR gm3 (h:=⟨E3,c3⟩) S2 ?_ ?_ ?_ ?_ ?_ ?_ ?_) ?_
 rotate_right
 ·rintro _ e ⟨E4,c4⟩ ⟨rfl,⟨S3,S4,S5⟩,hl_2,h6_2,h9_2⟩
  simp only at S4 S5;obtain⟨S6,S7⟩:=S4;have hE0:2 < E4.length:=(List.getElem?_eq_some_iff.1 S6).1;simp only[simprocAttr, -Int.reduceNatCast',R0,hl_2,h6_2,h9_2,S5,S6];refine ai (fun _=> trivial) ⟨V.agg [V.int .i64 o.Prime,V.sl 3 u 0 d.length 1,m],by simp only[simprocAttr, -Int.reduceNatCast',R0,fn_out,p245,Rs.ev,hl_2,h6_2,set_app_key hE0],_,_,rfl,rec3 (K1:=fun k=> k=3) (K2:=K) ?_ (Deep.frame S3 fun k q=> set_ne (by have:=t2 _ q; omega)) (fun k p q=> by have:=t2 _ q; omega)⟩;have hq:(E4.set 2 (2,some [V.int .i64 o.Prime,V.sl 3 u 0 d.length 1,m]))[3]? =some (u,some (d.map Enc.enc)):=(set_ne (by decide)).trans S7;show Deep.rep _ _ o.Dims _;rw[e2];exact int_row hq fun k=> Iff.rfl
 all_goals simp only[simprocAttr, -Int.reduceNatCast',R0,hl_0,h2_0,h3_0,h4_0,h6_0,h7_0]
theorem s245(x y:GComplex)(f:List (List (List Int))){r:GComplex}(hF:F245 x y f=some r):ans A 245 [(eC x),(eC y),V.isl (f.map Enc.enc)]=some (Enc.enc r):=ans_of_deep (α:=GComplex) (by decide) (d245 x y f hF)
def F168(a0:GComplex)(a1:Int):Option Int:=
 (F100 a0 a1).bind fun x1=>
 (F186 a0 a1).bind fun x5=>
 (chk ((x1.length:Int) - (x5.length:Int))).bind fun x9=>
 some x9
theorem s168(a0:GComplex)(a1:Int){r:Int}(hF:F168 a0 a1=some r):ans A 168 [(eC a0),V.int .i64 a1]=some (Enc.enc r):=by
 refine ans_of (f:=p168) rfl rfl rfl fun e hl he=>?_;have h0_0:e.at 0=(eC a0):=he 0 _ rfl;have h1_0:e.at 1=V.int .i64 a1:=he 1 _ rfl;have hl_0:e.length=14:=hl;clear he hl;show W A b168 e ⟨[],0⟩ _;unfold F168 at hF;obtain⟨x1,gx1,hF⟩:=bS hF;have w2:ans A 100 [(eC a0),V.int .i64 a1]=some (V.isl (x1.map Enc.enc)):=s100 a0 a1 gx1;have w4:ans A 89 [V.isl (x1.map Enc.enc)]=some (V.int .i64 (x1.length:Int)):=s89 x1 rfl;obtain⟨x5,gx5,hF⟩:=bS hF;have w6:ans A 186 [(eC a0),V.int .i64 a1]=some (V.isl (x5.map Enc.enc)):=s186 a0 a1 gx5;have w8:ans A 89 [V.isl (x5.map Enc.enc)]=some (V.int .i64 (x5.length:Int)):=s89 x5 rfl;obtain⟨x9,gx9,hF⟩:=bS hF;have wx9:=chk_w gx9;cases hF;simp only[simprocAttr,R0,b168,hl_0,h0_0,h1_0,w2,w4,w6,w8,wx9];exact fin_ret (by simp only[simprocAttr,R0,fn_out,p168,Rs.ev,take_len_self,hl_0,h0_0,h1_0,w2,w4,w6,w8,wx9])
end
end Rv
