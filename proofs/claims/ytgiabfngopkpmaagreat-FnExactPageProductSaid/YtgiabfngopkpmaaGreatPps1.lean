/- What the abstract code answers: typed functions, part 2. -/
import Derived.Test.YtgiabfngopkpmaaGreatPps0
namespace Rv
set_option linter.unusedVariables false
set_option linter.unusedSimpArgs false
set_option maxRecDepth 100000
noncomputable section
def F122_1_B(a0:Int)(a1:Int)(a2:List (List Int))(v9_1:Int)(s:(List (List Int))×Int):Option (((List (List Int))×Int)⊕((List (List Int))×Int)):=
 match s with
 |(o0_1,v8_1)=>
  (mkL 8 a1 0).bind fun l5=>
  (getI l5 v9_1).bind fun x7=>
  (setI l5 v9_1 1).bind fun l9=>
  (getI a2 v9_1).bind fun x11=>
  (F94 x11).bind fun x13=>
  (app 8 x13 l9).bind fun l16=>
  (app 24 o0_1 [l16]).bind fun l18=>
  some (.inl (l18,(x11.length:Int)))
def F122_1_D(a0:Int)(a1:Int)(a2:List (List Int))(v9_1:Int)(s:(List (List Int))×Int):Option ((List (List Int))×Int):=
 match s with
 |(o0_1,v8_1)=>
  some (o0_1,v8_1)
def xN(zv8_1:Int)(x20:List (List Int))(v13_2:Int)(o1_2:(List (List Int))):Option (((List (List Int)))⊕((List (List Int)))):=
 (getI x20 v13_2).bind fun x26=>
(F81 x26).bind fun x28=>
if zv8_1≤x28 then
 (slI x26 zv8_1 (x26.length:Int)).bind fun l31=>
 (F94 l31).bind fun x33=>
 (app 24 o1_2 [x33]).bind fun l36=>
 some (.inl l36)
else
 some (.inl o1_2)
def F122_2_D(zv8_1:Int)(x20:List (List Int))(v13_2:Int)(o1_2:(List (List Int))):Option ((List (List Int))):=
 some o1_2
def F122(a0:Int)(a1:Int)(a2:List (List Int)):Option (List (List Int)):=
 (forR 0 a1 (F122_1_B a0 a1 a2) (F122_1_D a0 a1 a2) ([],0)).bind fun t19=> match t19 with
  |(zo0_1,zv8_1)=>
   (F131 a0 zo0_1).bind fun x20=>
   (forR 0 (x20.length:Int) (xN zv8_1 x20) (F122_2_D zv8_1 x20) ([]:(List (List Int)))).bind fun zo1_2=>
   some zo1_2
def I122_1(a0:Int)(a1:Int)(a2:List (List Int))(v9_1:Int)(s:(List (List Int))×Int)(e:Env)(h:Heap):Prop:=
 match s with
 |(o0_1,v8_1)=>
  ∃u2 k3:Nat,h=⟨[(u2,some (o0_1.map Enc.enc))],k3⟩∧e.length=68∧e.at 0=V.int .i64 a0∧e.at 1=V.int .i64 a1∧e.at 2=V.isl (a2.map Enc.enc)∧e.at 7=V.sl 0 u2 0 o0_1.length 1∧e.at 8=V.int .i64 v8_1∧e.at 9=V.int .i64 v9_1
def P122_1(a0:Int)(a1:Int)(a2:List (List Int))(t:(List (List Int))×Int)(x:Ex)(e:Env)(h:Heap):Prop:=
 match t with
 |(zo0_1,zv8_1)=>
  x= .normal∧∃u2 k3:Nat,h=⟨[(u2,some (zo0_1.map Enc.enc))],k3⟩∧e.length=68∧e.at 0=V.int .i64 a0∧e.at 7=V.sl 0 u2 0 zo0_1.length 1∧e.at 8=V.int .i64 zv8_1
theorem l122_1(a0:Int)(a1:Int)(a2:List (List Int)){lo:Int}{s:(List (List Int))×Int}{t:(List (List Int))×Int}(hF:forR lo a1 (F122_1_B a0 a1 a2) (F122_1_D a0 a1 a2) s=some t){e:Env}{h:Heap}(hI:I122_1 a0 a1 a2 lo s e h):W A c122_1 e h (P122_1 a0 a1 a2 t):=by
 show W A (.block 0 (.loop false b122_1)) e h _;rw[qi];refine qr hF 1 (by rcases s with⟨_,_⟩; obtain⟨_,_,rfl,_⟩:=hI; rfl) (I122_1 a0 a1 a2) hI ?_ ?_
 ·rintro v9_1 ⟨o0_1,v8_1⟩ e h ⟨u2,k3,rfl,h_1⟩ hlt hw o ho
  unfold F122_1_B at ho;dsimp only at ho;obtain⟨l5,gl5,ho⟩:=bS ho;obtain⟨w6a,w6b,w6c,w6d,w6e⟩:=mkL_w gl5;replace w6e:(List.replicate (Int.toNat a1) [V.int .i64 0]).flatten=List.map Enc.enc l5:=w6e;obtain⟨x7,gx7,ho⟩:=bS ho;obtain⟨w8a,w8b⟩:=ql gx7;have w8c:=qV gx7;replace w8c:v9_1 < (((Int.toNat a1):Nat):Int):=by first|exact w8c|(simp only[w6d]at w8c ⊢; exact w8c)
  have w8d:List.drop (Int.toNat v9_1) (l5.map Enc.enc)=(V.int .i64 x7)::List.drop ((Int.toNat v9_1)+1) (l5.map Enc.enc):=jO w8b;obtain⟨l9,gl9,ho⟩:=bS ho;obtain⟨w10a,w10b,w10c,w10d,w10e⟩:=xr gl9;replace w10e:List.take (Int.toNat v9_1) (l5.map Enc.enc)++[V.int .i64 1]++List.drop (Int.toNat v9_1+1) (l5.map Enc.enc)=List.map Enc.enc l9:=w10e;obtain⟨x11,gx11,ho⟩:=bS ho;obtain⟨w12a,w12b⟩:=ql gx11;obtain⟨x13,gx13,ho⟩:=bS ho;have w14:tans A 94 [1] [V.isl (x11.map Enc.enc)]=some (V.isl (x13.map Enc.enc)):=t94 x11 gx13;have w14t:=zt (α:=Int) x13;obtain⟨l16,gl16,ho⟩:=bS ho;have w15:=fun a b c d e=> qC (α:=Int) (n:=x13.length) (m:=(Int.toNat a1)) (ds:=List.map Enc.enc l9) gl16 (by first|rfl|simp only[w6d,w10d]) (by first|rfl|simp only[w6d,w10d]) rfl a b c d e;have w15l:=qM gl16;obtain⟨l18,gl18,ho⟩:=bS ho;have w17:=fun a b c d e=> qC (α:=List Int) (n:=o0_1.length) (m:=1) (ds:=[V.isl (l16.map Enc.enc)]) gl18 (by first|rfl|simp only[w6d,w10d]) (by first|rfl|simp only[w6d,w10d]) rfl a b c d e;have w17l:=qM gl18;cases ho;simp only[simprocAttr, -Int.reduceNatCast',R0,b122_1,h_1,eq_true hlt,hw,w6a,w6b,w6c,w6e,w8a,w8b,w8c,w8d,w10a,w10b,w10c,w10e,w12a,w12b,w14,w14t,take_len (α:=Int) (l:=l9) (n:=(Int.toNat a1)) (by first|rfl|simp only[w6d,w10d]),eq_true (le_of_len (l:=l9) (n:=(Int.toNat a1)) (by first|rfl|simp only[w6d,w10d])),w15,qO (α:=Int) l16,w17];refine ai rfl (ei _ (ei _ (ai rfl ?_)));simp only[simprocAttr, -Int.reduceNatCast',R0,h_1,eq_true hlt,hw,w6a,w6b,w6c,w6e,w8a,w8b,w8c,w8d,w10a,w10b,w10c,w10e,w12a,w12b,w14,w14t,take_len (α:=Int) (l:=l9) (n:=(Int.toNat a1)) (by first|rfl|simp only[w6d,w10d]),eq_true (le_of_len (l:=l9) (n:=(Int.toNat a1)) (by first|rfl|simp only[w6d,w10d])),w15,qO (α:=Int) l16,w17,w6d,w10d]
 ·rintro v9_1 ⟨o0_1,v8_1⟩ e h ⟨u2,k3,rfl,h_1⟩ hge t1 ho
  unfold F122_1_D at ho;dsimp only at ho;cases ho;simp only[simprocAttr, -Int.reduceNatCast',R0,b122_1,h_1,eq_false hge];intro ht; subst ht;refine ai rfl (ei _ (ei _ (ai rfl ?_)));simp only[simprocAttr, -Int.reduceNatCast',R0,h_1,eq_false hge]
def I122_2(zv8_1:Int)(x20:List (List Int))(v13_2:Int)(o1_2:(List (List Int)))(e:Env)(h:Heap):Prop:=
 ∃u23 k24:Nat,h=⟨[(0,none),(u23,some (o1_2.map Enc.enc))],k24⟩∧e.length=68∧e.at 8=V.int .i64 zv8_1∧e.at 11=V.isl (x20.map Enc.enc)∧e.at 12=V.sl 1 u23 0 o1_2.length 1∧e.at 13=V.int .i64 v13_2
def P122_2(zv8_1:Int)(x20:List (List Int))(zo1_2:(List (List Int)))(x:Ex)(e:Env)(h:Heap):Prop:=
 x= .normal∧∃u23 k24:Nat,h=⟨[(0,none),(u23,some (zo1_2.map Enc.enc))],k24⟩∧e.length=68∧e.at 12=V.sl 1 u23 0 zo1_2.length 1
theorem l122_2(zv8_1:Int)(x20:List (List Int)){lo:Int}{s:(List (List Int))}{t:(List (List Int))}(hF:forR lo (x20.length:Int) (xN zv8_1 x20) (F122_2_D zv8_1 x20) s=some t){e:Env}{h:Heap}(hI:I122_2 zv8_1 x20 lo s e h):W A c122_2 e h (P122_2 zv8_1 x20 t):=by
 show W A (.block 2 (.loop false b122_2)) e h _;rw[qi];refine qr hF 2 (by obtain⟨_,_,rfl,_⟩:=hI; rfl) (I122_2 zv8_1 x20) hI ?_ ?_
 ·rintro v13_2 o1_2 e h ⟨u23,k24,rfl,h_22⟩ hlt hw o ho
  unfold xN at ho;obtain⟨x26,gx26,ho⟩:=bS ho;obtain⟨w27a,w27b⟩:=ql gx26;obtain⟨x28,gx28,ho⟩:=bS ho;have w29:=s81 x26 gx28;by_cases c30:zv8_1≤x28
  ·rw[if_pos c30]at ho
   obtain⟨l31,gl31,ho⟩:=bS ho;have w32:sliceV 1 (V.isl (x26.map Enc.enc)) (some (V.int .i64 zv8_1)) none=some (V.isl (l31.map Enc.enc)):=sliceV_w (α:=Int) One.one gl31 (.inr rfl) (.inl ⟨rfl,rfl⟩);obtain⟨x33,gx33,ho⟩:=bS ho;have w34:=s94 l31 gx33;obtain⟨l36,gl36,ho⟩:=bS ho;have w35:=fun a b c d e=> qC (α:=List Int) (n:=o1_2.length) (m:=1) (ds:=[V.isl (x33.map Enc.enc)]) gl36 (by first|rfl|simp) (by first|rfl|simp) rfl a b c d e;have w35l:=qM gl36;cases ho;simp only[simprocAttr,R0,b122_2, *];refine ai rfl (ei _ (ei _ (ai rfl ?_)));simp only[simprocAttr,R0, *]
  ·rw[if_neg c30]at ho
   cases ho;simp only[simprocAttr,R0,b122_2, *];refine ai rfl (ei _ (ei _ (ai rfl ?_)));simp only[simprocAttr,R0, *]
 ·rintro v13_2 o1_2 e h ⟨u23,k24,rfl,h_22⟩ hge t1 ho
  unfold F122_2_D at ho;cases ho;simp only[simprocAttr,R0,b122_2, *];intro ht; subst ht;refine ai rfl (ei _ (ei _ (ai rfl ?_)));simp only[simprocAttr,R0, *]
theorem s122(a0:Int)(a1:Int)(a2:List (List Int)){r:List (List Int)}(hF:F122 a0 a1 a2=some r):ans A 122 [V.int .i64 a0,V.int .i64 a1,V.isl (a2.map Enc.enc)]=some (Enc.enc r):=by
 refine qu (f:=p122) rfl rfl rfl fun e hl he=>?_;have h0_0:e.at 0=V.int .i64 a0:=he 0 _ rfl;have h1_0:e.at 1=V.int .i64 a1:=he 1 _ rfl;have h2_0:e.at 2=V.isl (a2.map Enc.enc):=he 2 _ rfl;have hl_0:e.length=68:=hl;clear he hl;show W A b122 e ⟨[],0⟩ _;unfold F122 at hF;obtain⟨⟨zo0_1,zv8_1⟩,gt19,hF⟩:=bS hF;dsimp only at hF;simp only[simprocAttr, -Int.reduceNatCast',R0,b122, *];refine W.mono (l122_1 a0 a1 a2 gt19 (ei _ (ei _ (ai rfl ?_)))) ?_
 ·simp only[simprocAttr, -Int.reduceNatCast',R0, *]
 rintro _ e _ ⟨rfl,u2,k3,rfl,hl_4,h0_4,h7_4,h8_4⟩;obtain⟨x20,gx20,hF⟩:=bS hF;have w21:=s131 a0 zo0_1 gx20;obtain⟨zo1_2,gt37,hF⟩:=bS hF;simp only[simprocAttr, -Int.reduceNatCast',R0,qO (α:=List Int) zo0_1, *];refine W.mono (l122_2 zv8_1 x20 gt37 (ei _ (ei _ (ai rfl ?_)))) ?_
 ·simp only[simprocAttr, -Int.reduceNatCast',R0,qO (α:=List Int) zo0_1, *]
 rintro _ e _ ⟨rfl,u23,k24,rfl,hl_25,h12_25⟩;have hE:=wA hF; subst hE;simp only[simprocAttr, -Int.reduceNatCast',R0, *];exact qd (by simp only[simprocAttr, -Int.reduceNatCast',R0,qe,p122,Rs.ev,qa,frzs (α:=List Int) zo1_2,qO (α:=List Int) zo1_2, *])
def F310_1_S(a0:qc)(a1:Int)(a2:Int)(s:(List Int)×Int):Option (((List Int)×Int)⊕((List Int))):=
 match s with
 |(o1_1,v8_1)=>
  (F99 a0.Complex a1).bind fun x5=>
  if v8_1 < x5 then
   (F77 a0 a1 v8_1).bind fun x8=>
   if x8≤a2 then
    (app 8 o1_1 [v8_1]).bind fun l12=>
    (chk (v8_1+1)).bind fun x13=>
    some (.inl (l12,x13))
   else
    (chk (v8_1+1)).bind fun x14=>
    some (.inl (o1_1,x14))
  else
   some (.inr o1_1)
def F310(a0:qc)(a1:Int)(a2:Int):Option (List Int):=
 (zD (F310_1_S a0 a1 a2) ([],0)).bind fun zo1_1=>
 some zo1_1
def I310_1(a0:qc)(a1:Int)(a2:Int)(s:(List Int)×Int)(e:Env)(h:Heap):Prop:=
 match s with
 |(o1_1,v8_1)=>
  ∃u2 k3:Nat,h=⟨[(0,none),(u2,some (o1_1.map Enc.enc))],k3⟩∧e.length=29∧e.at 1=V.int .i64 a1∧e.at 2=V.int .i64 a2∧e.at 3=V.iptr [V.int .i64 a0.Complex.Prime,V.isl (a0.Complex.Dims.map Enc.enc),V.isl (a0.Complex.Maps.map Enc.enc),V.isl (a0.Levels.map Enc.enc)]∧e.at 7=V.sl 1 u2 0 o1_1.length 1∧e.at 8=V.int .i64 v8_1
def P310_1(a0:qc)(a1:Int)(a2:Int)(zo1_1:(List Int))(x:Ex)(e:Env)(h:Heap):Prop:=
 x= .normal∧∃u2 k3:Nat,h=⟨[(0,none),(u2,some (zo1_1.map Enc.enc))],k3⟩∧e.length=29∧e.at 7=V.sl 1 u2 0 zo1_1.length 1
theorem l310_1(a0:qc)(a1:Int)(a2:Int){s:(List Int)×Int}{t:(List Int)}(hF:zD (F310_1_S a0 a1 a2) s=some t){e:Env}{h:Heap}(hI:I310_1 a0 a1 a2 s e h):W A c310_1 e h (P310_1 a0 a1 a2 t):=by
 show W A (.block 0 (.loop false b310_1)) e h _;rw[qi];refine W_loop hF 2 (by rcases s with⟨_,_⟩; obtain⟨_,_,rfl,_⟩:=hI; rfl) (I310_1 a0 a1 a2) hI ?_
 ·rintro⟨o1_1,v8_1⟩ e h ⟨u2,k3,rfl,h_1⟩ o ho
  unfold F310_1_S at ho;dsimp only at ho;obtain⟨x5,gx5,ho⟩:=bS ho;have w6:=s99 a0.Complex a1 gx5;by_cases c7:v8_1 < x5
  ·rw[if_pos c7]at ho
   obtain⟨x8,gx8,ho⟩:=bS ho;have w9:=s77 a0 a1 v8_1 gx8;by_cases c10:x8≤a2
   ·rw[if_pos c10]at ho
    obtain⟨l12,gl12,ho⟩:=bS ho;have w11:=fun a b c d e=> qC (α:=Int) (n:=o1_1.length) (m:=1) (ds:=[V.int .i64 v8_1]) gl12 (by first|rfl|simp) (by first|rfl|simp) rfl a b c d e;have w11l:=qM gl12;obtain⟨x13,gx13,ho⟩:=bS ho;have wx13:=qx gx13;cases ho;simp only[simprocAttr,R0,b310_1, *];refine ai rfl (ei _ (ei _ (ai rfl ?_)));simp only[simprocAttr,R0, *]
   ·rw[if_neg c10]at ho
    obtain⟨x14,gx14,ho⟩:=bS ho;have wx14:=qx gx14;cases ho;simp only[simprocAttr,R0,b310_1, *];refine ai rfl (ei _ (ei _ (ai rfl ?_)));simp only[simprocAttr,R0, *]
  ·rw[if_neg c7]at ho
   cases ho;simp only[simprocAttr,R0,b310_1, *];intro ht; subst ht;simp only[simprocAttr,RR,RB];refine ai rfl (ei _ (ei _ (ai rfl ?_)));simp only[simprocAttr,R0, *]
theorem s310(a0:qc)(a1:Int)(a2:Int){r:List Int}(hF:F310 a0 a1 a2=some r):ans A 310 [(eF a0),V.int .i64 a1,V.int .i64 a2]=some (Enc.enc r):=by
 refine qu (f:=p310) rfl rfl rfl fun e hl he=>?_;have h0_0:e.at 0=(eF a0):=he 0 _ rfl;have h1_0:e.at 1=V.int .i64 a1:=he 1 _ rfl;have h2_0:e.at 2=V.int .i64 a2:=he 2 _ rfl;have hl_0:e.length=29:=hl;clear he hl;show W A b310 e ⟨[],0⟩ _;unfold F310 at hF;obtain⟨zo1_1,gt15,hF⟩:=bS hF;simp only[simprocAttr, -Int.reduceNatCast',R0,b310, *];refine W.mono (l310_1 a0 a1 a2 gt15 (ei _ (ei _ (ai rfl ?_)))) ?_
 ·simp only[simprocAttr, -Int.reduceNatCast',R0, *]
 rintro _ e _ ⟨rfl,u2,k3,rfl,hl_4,h7_4⟩;have hE:=wA hF; subst hE;simp only[simprocAttr, -Int.reduceNatCast',R0, *];exact qd (by simp only[simprocAttr, -Int.reduceNatCast',R0,qe,p310,Rs.ev,qa,frzs (α:=Int) zo1_1,qO (α:=Int) zo1_1, *])
def F311_2_B(a0:List (List Int))(a1:List Int)(a2:Int)(o0_1:List (List Int))(v8_1:Int)(v10_2:Int)(o1_2:(List Int)):Option (((List Int))⊕((List Int))):=
 (getI a1 v10_2).bind fun x11=>
(getI a0 v8_1).bind fun x13=>
(getI x13 v10_2).bind fun x15=>
(getI o1_2 x11).bind fun x17=>
(setI o1_2 x11 x15).bind fun l19=>
some (.inl l19)
def F311_2_D(a0:List (List Int))(a1:List Int)(a2:Int)(o0_1:List (List Int))(v8_1:Int)(v10_2:Int)(o1_2:(List Int)):Option ((List Int)):=
 some o1_2
def F311_1_B(a0:List (List Int))(a1:List Int)(a2:Int)(v8_1:Int)(o0_1:(List (List Int))):Option (((List (List Int)))⊕((List (List Int)))):=
 (mkL 8 a2 0).bind fun l5=>
(forR 0 (a1.length:Int) (F311_2_B a0 a1 a2 o0_1 v8_1) (F311_2_D a0 a1 a2 o0_1 v8_1) l5).bind fun zo1_2=>
(app 24 o0_1 [zo1_2]).bind fun l23=>
some (.inl l23)
def F311_1_D(a0:List (List Int))(a1:List Int)(a2:Int)(v8_1:Int)(o0_1:(List (List Int))):Option ((List (List Int))):=
 some o0_1
def F311(a0:List (List Int))(a1:List Int)(a2:Int):Option (List (List Int)):=
 (forR 0 (a0.length:Int) (F311_1_B a0 a1 a2) (F311_1_D a0 a1 a2) ([]:(List (List Int)))).bind fun zo0_1=>
 some zo0_1
def I311_2(a0:List (List Int))(a1:List Int)(a2:Int)(o0_1:List (List Int))(v8_1:Int)(u2:Nat)(v10_2:Int)(o1_2:(List Int))(e:Env)(h:Heap):Prop:=
 ∃u8 k9:Nat,h=⟨[(u2,some (o0_1.map Enc.enc)),(u8,some (o1_2.map Enc.enc))],k9⟩∧e.length=44∧e.at 0=V.isl (a0.map Enc.enc)∧e.at 1=V.isl (a1.map Enc.enc)∧e.at 2=V.int .i64 a2∧e.at 7=V.sl 0 u2 0 o0_1.length 1∧e.at 8=V.int .i64 v8_1∧e.at 9=V.sl 1 u8 0 o1_2.length 1∧e.at 10=V.int .i64 v10_2
def P311_2(a0:List (List Int))(a1:List Int)(a2:Int)(o0_1:List (List Int))(v8_1:Int)(u2:Nat)(zo1_2:(List Int))(x:Ex)(e:Env)(h:Heap):Prop:=
 x= .normal∧∃u8 k9:Nat,h=⟨[(u2,some (o0_1.map Enc.enc)),(u8,some (zo1_2.map Enc.enc))],k9⟩∧e.length=44∧e.at 0=V.isl (a0.map Enc.enc)∧e.at 1=V.isl (a1.map Enc.enc)∧e.at 2=V.int .i64 a2∧e.at 7=V.sl 0 u2 0 o0_1.length 1∧e.at 8=V.int .i64 v8_1∧e.at 9=V.sl 1 u8 0 zo1_2.length 1
theorem l311_2(a0:List (List Int))(a1:List Int)(a2:Int)(o0_1:List (List Int))(v8_1:Int)(u2:Nat){lo:Int}{s:(List Int)}{t:(List Int)}(hF:forR lo (a1.length:Int) (F311_2_B a0 a1 a2 o0_1 v8_1) (F311_2_D a0 a1 a2 o0_1 v8_1) s=some t){e:Env}{h:Heap}(hI:I311_2 a0 a1 a2 o0_1 v8_1 u2 lo s e h):W A c311_2 e h (P311_2 a0 a1 a2 o0_1 v8_1 u2 t):=by
 show W A (.block 2 (.loop false b311_2)) e h _;rw[qi];refine qr hF 2 (by obtain⟨_,_,rfl,_⟩:=hI; rfl) (I311_2 a0 a1 a2 o0_1 v8_1 u2) hI ?_ ?_
 ·rintro v10_2 o1_2 e h ⟨u8,k9,rfl,h_7⟩ hlt hw o ho
  unfold F311_2_B at ho;obtain⟨x11,gx11,ho⟩:=bS ho;obtain⟨w12a,w12b⟩:=ql gx11;obtain⟨x13,gx13,ho⟩:=bS ho;obtain⟨w14a,w14b⟩:=ql gx13;obtain⟨x15,gx15,ho⟩:=bS ho;obtain⟨w16a,w16b⟩:=ql gx15;obtain⟨x17,gx17,ho⟩:=bS ho;obtain⟨w18a,w18b⟩:=ql gx17;have w18c:=qV gx17;have w18d:List.drop (Int.toNat x11) (o1_2.map Enc.enc)=(V.int .i64 x17)::List.drop ((Int.toNat x11)+1) (o1_2.map Enc.enc):=jO w18b;obtain⟨l19,gl19,ho⟩:=bS ho;obtain⟨w20a,w20b,w20c,w20d,w20e⟩:=xr gl19;replace w20e:List.take (Int.toNat x11) (o1_2.map Enc.enc)++[V.int .i64 x15]++List.drop (Int.toNat x11+1) (o1_2.map Enc.enc)=List.map Enc.enc l19:=w20e;cases ho;simp only[simprocAttr,R0,b311_2, *];refine ai rfl (ei _ (ei _ (ai rfl ?_)));simp only[simprocAttr,R0, *]
 ·rintro v10_2 o1_2 e h ⟨u8,k9,rfl,h_7⟩ hge t1 ho
  unfold F311_2_D at ho;cases ho;simp only[simprocAttr,R0,b311_2, *];intro ht; subst ht;refine ai rfl (ei _ (ei _ (ai rfl ?_)));simp only[simprocAttr,R0, *]
def I311_1(a0:List (List Int))(a1:List Int)(a2:Int)(v8_1:Int)(o0_1:(List (List Int)))(e:Env)(h:Heap):Prop:=
 ∃u2 k3:Nat,h=⟨[(u2,some (o0_1.map Enc.enc))],k3⟩∧e.length=44∧e.at 0=V.isl (a0.map Enc.enc)∧e.at 1=V.isl (a1.map Enc.enc)∧e.at 2=V.int .i64 a2∧e.at 7=V.sl 0 u2 0 o0_1.length 1∧e.at 8=V.int .i64 v8_1
def P311_1(a0:List (List Int))(a1:List Int)(a2:Int)(zo0_1:(List (List Int)))(x:Ex)(e:Env)(h:Heap):Prop:=
 x= .normal∧∃u2 k3:Nat,h=⟨[(u2,some (zo0_1.map Enc.enc))],k3⟩∧e.length=44∧e.at 7=V.sl 0 u2 0 zo0_1.length 1
theorem l311_1(a0:List (List Int))(a1:List Int)(a2:Int){lo:Int}{s:(List (List Int))}{t:(List (List Int))}(hF:forR lo (a0.length:Int) (F311_1_B a0 a1 a2) (F311_1_D a0 a1 a2) s=some t){e:Env}{h:Heap}(hI:I311_1 a0 a1 a2 lo s e h):W A c311_1 e h (P311_1 a0 a1 a2 t):=by
 show W A (.block 0 (.loop false b311_1)) e h _;rw[qi];refine qr hF 1 (by obtain⟨_,_,rfl,_⟩:=hI; rfl) (I311_1 a0 a1 a2) hI ?_ ?_
 ·rintro v8_1 o0_1 e h ⟨u2,k3,rfl,h_1⟩ hlt hw o ho
  unfold F311_1_B at ho;obtain⟨l5,gl5,ho⟩:=bS ho;obtain⟨w6a,w6b,w6c,w6d,w6e⟩:=mkL_w gl5;replace w6e:(List.replicate (Int.toNat a2) [V.int .i64 0]).flatten=List.map Enc.enc l5:=w6e;obtain⟨zo1_2,gt21,ho⟩:=bS ho;simp only[simprocAttr, -Int.reduceNatCast',R0,b311_1, *];refine W.mono (l311_2 a0 a1 a2 o0_1 v8_1 u2 gt21 (ei _ (ei _ (ai rfl ?_)))) ?_
  ·simp only[simprocAttr, -Int.reduceNatCast',R0, *]
  rintro _ e _ ⟨rfl,u8,k9,rfl,h_10⟩;obtain⟨l23,gl23,ho⟩:=bS ho;have w22:=fun a b c d e=> qC (α:=List Int) (n:=o0_1.length) (m:=1) (ds:=[V.isl (zo1_2.map Enc.enc)]) gl23 (by first|rfl|simp) (by first|rfl|simp) rfl a b c d e;have w22l:=qM gl23;cases ho;simp only[simprocAttr, -Int.reduceNatCast',R0,qO (α:=Int) zo1_2, *];refine ai rfl (ei _ (ei _ (ai rfl ?_)));simp only[simprocAttr, -Int.reduceNatCast',R0,qO (α:=Int) zo1_2, *]
 ·rintro v8_1 o0_1 e h ⟨u2,k3,rfl,h_1⟩ hge t1 ho
  unfold F311_1_D at ho;cases ho;simp only[simprocAttr, -Int.reduceNatCast',R0,b311_1, *];intro ht; subst ht;refine ai rfl (ei _ (ei _ (ai rfl ?_)));simp only[simprocAttr, -Int.reduceNatCast',R0, *]
theorem s311(a0:List (List Int))(a1:List Int)(a2:Int){r:List (List Int)}(hF:F311 a0 a1 a2=some r):ans A 311 [V.isl (a0.map Enc.enc),V.isl (a1.map Enc.enc),V.int .i64 a2]=some (Enc.enc r):=by
 refine qu (f:=p311) rfl rfl rfl fun e hl he=>?_;have h0_0:e.at 0=V.isl (a0.map Enc.enc):=he 0 _ rfl;have h1_0:e.at 1=V.isl (a1.map Enc.enc):=he 1 _ rfl;have h2_0:e.at 2=V.int .i64 a2:=he 2 _ rfl;have hl_0:e.length=44:=hl;clear he hl;show W A b311 e ⟨[],0⟩ _;unfold F311 at hF;obtain⟨zo0_1,gt24,hF⟩:=bS hF;simp only[simprocAttr, -Int.reduceNatCast',R0,b311, *];refine W.mono (l311_1 a0 a1 a2 gt24 (ei _ (ei _ (ai rfl ?_)))) ?_
 ·simp only[simprocAttr, -Int.reduceNatCast',R0, *]
 rintro _ e _ ⟨rfl,u2,k3,rfl,hl_4,h7_4⟩;have hE:=wA hF; subst hE;simp only[simprocAttr, -Int.reduceNatCast',R0, *];exact qd (by simp only[simprocAttr, -Int.reduceNatCast',R0,qe,p311,Rs.ev,qa,frzs (α:=List Int) zo0_1,qO (α:=List Int) zo0_1, *])
def F280_2_S(a0:qc)(a1:Int)(a2:Int)(a3:Int)(x1:Int)(x3:List Int)(x5:List (List Int))(o1_1:List (List Int))(v14_1:Int)(s:(List Int)×Int):Option (((List Int)×Int)⊕((List Int))):=
 match s with
 |(o2_2,v16_2)=>
  if 0 < a2 then
   (chk (a2 - 1)).bind fun x16=>
   (F99 a0.Complex x16).bind fun x17=>
   if v16_2 < x17 then
    (F77 a0 x16 v16_2).bind fun x20=>
    (chk (a3 - a1)).bind fun x22=>
    if x22 < x20 then
     (getI x3 v14_1).bind fun x24=>
     (getI x5 x24).bind fun x26=>
     (getI x26 v16_2).bind fun x28=>
     (app 8 o2_2 [x28]).bind fun l31=>
     (chk (v16_2+1)).bind fun x32=>
     some (.inl (l31,x32))
    else
     (chk (v16_2+1)).bind fun x33=>
     some (.inl (o2_2,x33))
   else
    some (.inr o2_2)
  else
   some (.inr o2_2)
def F280_1_B(a0:qc)(a1:Int)(a2:Int)(a3:Int)(x1:Int)(x3:List Int)(x5:List (List Int))(v14_1:Int)(o1_1:(List (List Int))):Option (((List (List Int)))⊕((List (List Int)))):=
 (zD (F280_2_S a0 a1 a2 a3 x1 x3 x5 o1_1 v14_1) ([],0)).bind fun zo2_2=>
(app 24 o1_1 [zo2_2]).bind fun l36=>
some (.inl l36)
def F280_1_D(a0:qc)(a1:Int)(a2:Int)(a3:Int)(x1:Int)(x3:List Int)(x5:List (List Int))(v14_1:Int)(o1_1:(List (List Int))):Option ((List (List Int))):=
 some o1_1
def F280(a0:qc)(a1:Int)(a2:Int)(a3:Int):Option (List (List Int)):=
 (F99 a0.Complex a2).bind fun x1=>
 (F310 a0 a2 a3).bind fun x3=>
 (F76 a0.Complex a2).bind fun x5=>
 (forR 0 (x3.length:Int) (F280_1_B a0 a1 a2 a3 x1 x3 x5) (F280_1_D a0 a1 a2 a3 x1 x3 x5) ([]:(List (List Int)))).bind fun zo1_1=>
 (F122 a0.Complex.Prime (x3.length:Int) zo1_1).bind fun x38=>
 (F311 x38 x3 x1).bind fun x40=>
 (F131 a0.Complex.Prime x40).bind fun x42=>
 some x42
def I280_2(a0:qc)(a1:Int)(a2:Int)(a3:Int)(x1:Int)(x3:List Int)(x5:List (List Int))(o1_1:List (List Int))(v14_1:Int)(u8:Nat)(s:(List Int)×Int)(e:Env)(h:Heap):Prop:=
 match s with
 |(o2_2,v16_2)=>
  ∃u12 k13:Nat,h=⟨[(0,none),(u8,some (o1_1.map Enc.enc)),(u12,some (o2_2.map Enc.enc))],k13⟩∧e.length=89∧e.at 1=V.int .i64 a1∧e.at 2=V.int .i64 a2∧e.at 3=V.int .i64 a3∧e.at 4=V.iptr [V.int .i64 a0.Complex.Prime,V.isl (a0.Complex.Dims.map Enc.enc),V.isl (a0.Complex.Maps.map Enc.enc),V.isl (a0.Levels.map Enc.enc)]∧e.at 9=V.int .i64 a0.Complex.Prime∧e.at 10=V.int .i64 x1∧e.at 11=V.isl (x3.map Enc.enc)∧e.at 12=V.isl (x5.map Enc.enc)∧e.at 13=V.sl 1 u8 0 o1_1.length 1∧e.at 14=V.int .i64 v14_1∧e.at 15=V.sl 2 u12 0 o2_2.length 1∧e.at 16=V.int .i64 v16_2
def P280_2(a0:qc)(a1:Int)(a2:Int)(a3:Int)(x1:Int)(x3:List Int)(x5:List (List Int))(o1_1:List (List Int))(v14_1:Int)(u8:Nat)(zo2_2:(List Int))(x:Ex)(e:Env)(h:Heap):Prop:=
 x= .normal∧∃u12 k13:Nat,h=⟨[(0,none),(u8,some (o1_1.map Enc.enc)),(u12,some (zo2_2.map Enc.enc))],k13⟩∧e.length=89∧e.at 1=V.int .i64 a1∧e.at 2=V.int .i64 a2∧e.at 3=V.int .i64 a3∧e.at 4=V.iptr [V.int .i64 a0.Complex.Prime,V.isl (a0.Complex.Dims.map Enc.enc),V.isl (a0.Complex.Maps.map Enc.enc),V.isl (a0.Levels.map Enc.enc)]∧e.at 9=V.int .i64 a0.Complex.Prime∧e.at 10=V.int .i64 x1∧e.at 11=V.isl (x3.map Enc.enc)∧e.at 12=V.isl (x5.map Enc.enc)∧e.at 13=V.sl 1 u8 0 o1_1.length 1∧e.at 14=V.int .i64 v14_1∧e.at 15=V.sl 2 u12 0 zo2_2.length 1
theorem l280_2(a0:qc)(a1:Int)(a2:Int)(a3:Int)(x1:Int)(x3:List Int)(x5:List (List Int))(o1_1:List (List Int))(v14_1:Int)(u8:Nat){s:(List Int)×Int}{t:(List Int)}(hF:zD (F280_2_S a0 a1 a2 a3 x1 x3 x5 o1_1 v14_1) s=some t){e:Env}{h:Heap}(hI:I280_2 a0 a1 a2 a3 x1 x3 x5 o1_1 v14_1 u8 s e h):W A c280_2 e h (P280_2 a0 a1 a2 a3 x1 x3 x5 o1_1 v14_1 u8 t):=by
 show W A (.block 2 (.loop false b280_2)) e h _;rw[qi];refine W_loop hF 3 (by rcases s with⟨_,_⟩; obtain⟨_,_,rfl,_⟩:=hI; rfl) (I280_2 a0 a1 a2 a3 x1 x3 x5 o1_1 v14_1 u8) hI ?_
 ·rintro⟨o2_2,v16_2⟩ e h ⟨u12,k13,rfl,h_11⟩ o ho
  unfold F280_2_S at ho;dsimp only at ho;by_cases c15:0 < a2
  ·rw[if_pos c15]at ho
   obtain⟨x16,gx16,ho⟩:=bS ho;have wx16:=qx gx16;obtain⟨x17,gx17,ho⟩:=bS ho;have w18:=s99 a0.Complex x16 gx17;by_cases c19:v16_2 < x17
   ·rw[if_pos c19]at ho
    obtain⟨x20,gx20,ho⟩:=bS ho;have w21:=s77 a0 x16 v16_2 gx20;obtain⟨x22,gx22,ho⟩:=bS ho;have wx22:=qx gx22;by_cases c23:x22 < x20
    ·rw[if_pos c23]at ho
     obtain⟨x24,gx24,ho⟩:=bS ho;obtain⟨w25a,w25b⟩:=ql gx24;obtain⟨x26,gx26,ho⟩:=bS ho;obtain⟨w27a,w27b⟩:=ql gx26;obtain⟨x28,gx28,ho⟩:=bS ho;obtain⟨w29a,w29b⟩:=ql gx28;obtain⟨l31,gl31,ho⟩:=bS ho;have w30:=fun a b c d e=> qC (α:=Int) (n:=o2_2.length) (m:=1) (ds:=[V.int .i64 x28]) gl31 (by first|rfl|simp) (by first|rfl|simp) rfl a b c d e;have w30l:=qM gl31;obtain⟨x32,gx32,ho⟩:=bS ho;have wx32:=qx gx32;cases ho;simp only[simprocAttr,R0,b280_2, *];refine ai rfl (ei _ (ei _ (ai rfl ?_)));simp only[simprocAttr,R0, *]
    ·rw[if_neg c23]at ho
     obtain⟨x33,gx33,ho⟩:=bS ho;have wx33:=qx gx33;cases ho;simp only[simprocAttr,R0,b280_2, *];refine ai rfl (ei _ (ei _ (ai rfl ?_)));simp only[simprocAttr,R0, *]
   ·rw[if_neg c19]at ho
    cases ho;simp only[simprocAttr,R0,b280_2, *];intro ht; subst ht;simp only[simprocAttr,RR,RB];refine ai rfl (ei _ (ei _ (ai rfl ?_)));simp only[simprocAttr,R0, *]
  ·rw[if_neg c15]at ho
   cases ho;simp only[simprocAttr,R0,b280_2, *];intro ht; subst ht;simp only[simprocAttr,RR,RB];refine ai rfl (ei _ (ei _ (ai rfl ?_)));simp only[simprocAttr,R0, *]
def I280_1(a0:qc)(a1:Int)(a2:Int)(a3:Int)(x1:Int)(x3:List Int)(x5:List (List Int))(v14_1:Int)(o1_1:(List (List Int)))(e:Env)(h:Heap):Prop:=
 ∃u8 k9:Nat,h=⟨[(0,none),(u8,some (o1_1.map Enc.enc))],k9⟩∧e.length=89∧e.at 1=V.int .i64 a1∧e.at 2=V.int .i64 a2∧e.at 3=V.int .i64 a3∧e.at 4=V.iptr [V.int .i64 a0.Complex.Prime,V.isl (a0.Complex.Dims.map Enc.enc),V.isl (a0.Complex.Maps.map Enc.enc),V.isl (a0.Levels.map Enc.enc)]∧e.at 9=V.int .i64 a0.Complex.Prime∧e.at 10=V.int .i64 x1∧e.at 11=V.isl (x3.map Enc.enc)∧e.at 12=V.isl (x5.map Enc.enc)∧e.at 13=V.sl 1 u8 0 o1_1.length 1∧e.at 14=V.int .i64 v14_1
def P280_1(a0:qc)(a1:Int)(a2:Int)(a3:Int)(x1:Int)(x3:List Int)(x5:List (List Int))(zo1_1:(List (List Int)))(x:Ex)(e:Env)(h:Heap):Prop:=
 x= .normal∧∃u8 k9:Nat,h=⟨[(0,none),(u8,some (zo1_1.map Enc.enc))],k9⟩∧e.length=89∧e.at 9=V.int .i64 a0.Complex.Prime∧e.at 10=V.int .i64 x1∧e.at 11=V.isl (x3.map Enc.enc)∧e.at 13=V.sl 1 u8 0 zo1_1.length 1
theorem l280_1(a0:qc)(a1:Int)(a2:Int)(a3:Int)(x1:Int)(x3:List Int)(x5:List (List Int)){lo:Int}{s:(List (List Int))}{t:(List (List Int))}(hF:forR lo (x3.length:Int) (F280_1_B a0 a1 a2 a3 x1 x3 x5) (F280_1_D a0 a1 a2 a3 x1 x3 x5) s=some t){e:Env}{h:Heap}(hI:I280_1 a0 a1 a2 a3 x1 x3 x5 lo s e h):W A c280_1 e h (P280_1 a0 a1 a2 a3 x1 x3 x5 t):=by
 show W A (.block 0 (.loop false b280_1)) e h _;rw[qi];refine qr hF 2 (by obtain⟨_,_,rfl,_⟩:=hI; rfl) (I280_1 a0 a1 a2 a3 x1 x3 x5) hI ?_ ?_
 ·rintro v14_1 o1_1 e h ⟨u8,k9,rfl,h_7⟩ hlt hw o ho
  unfold F280_1_B at ho;obtain⟨zo2_2,gt34,ho⟩:=bS ho;simp only[simprocAttr,R0,b280_1, *];refine W.mono (l280_2 a0 a1 a2 a3 x1 x3 x5 o1_1 v14_1 u8 gt34 (ei _ (ei _ (ai rfl ?_)))) ?_
  ·simp only[simprocAttr,R0, *]
  rintro _ e _ ⟨rfl,u12,k13,rfl,h_14⟩;obtain⟨l36,gl36,ho⟩:=bS ho;have w35:=fun a b c d e=> qC (α:=List Int) (n:=o1_1.length) (m:=1) (ds:=[V.isl (zo2_2.map Enc.enc)]) gl36 (by first|rfl|simp) (by first|rfl|simp) rfl a b c d e;have w35l:=qM gl36;cases ho;simp only[simprocAttr,R0,qO (α:=Int) zo2_2, *];refine ai rfl (ei _ (ei _ (ai rfl ?_)));simp only[simprocAttr,R0,qO (α:=Int) zo2_2, *]
 ·rintro v14_1 o1_1 e h ⟨u8,k9,rfl,h_7⟩ hge t1 ho
  unfold F280_1_D at ho;cases ho;simp only[simprocAttr,R0,b280_1, *];intro ht; subst ht;refine ai rfl (ei _ (ei _ (ai rfl ?_)));simp only[simprocAttr,R0, *]
theorem s280(a0:qc)(a1:Int)(a2:Int)(a3:Int){r:List (List Int)}(hF:F280 a0 a1 a2 a3=some r):ans A 280 [(eF a0),V.int .i64 a1,V.int .i64 a2,V.int .i64 a3]=some (Enc.enc r):=by
 refine qu (f:=p280) rfl rfl rfl fun e hl he=>?_;have h0_0:e.at 0=(eF a0):=he 0 _ rfl;have h1_0:e.at 1=V.int .i64 a1:=he 1 _ rfl;have h2_0:e.at 2=V.int .i64 a2:=he 2 _ rfl;have h3_0:e.at 3=V.int .i64 a3:=he 3 _ rfl;have hl_0:e.length=89:=hl;clear he hl;show W A b280 e ⟨[],0⟩ _;unfold F280 at hF;obtain⟨x1,gx1,hF⟩:=bS hF;have w2:=s99 a0.Complex a2 gx1;obtain⟨x3,gx3,hF⟩:=bS hF;have w4:=s310 a0 a2 a3 gx3;obtain⟨x5,gx5,hF⟩:=bS hF;have w6:=s76 a0.Complex a2 gx5;obtain⟨zo1_1,gt37,hF⟩:=bS hF;simp only[simprocAttr,R0,b280, *];refine W.mono (l280_1 a0 a1 a2 a3 x1 x3 x5 gt37 (ei _ (ei _ (ai rfl ?_)))) ?_
 ·simp only[simprocAttr,R0, *]
 rintro _ e _ ⟨rfl,u8,k9,rfl,h_10⟩;obtain⟨x38,gx38,hF⟩:=bS hF;have w39:=s122 a0.Complex.Prime (x3.length:Int) zo1_1 gx38;obtain⟨x40,gx40,hF⟩:=bS hF;have w41:=s311 x38 x3 x1 gx40;obtain⟨x42,gx42,hF⟩:=bS hF;have w43:=s131 a0.Complex.Prime x40 gx42;cases hF;simp only[simprocAttr,R0,qO (α:=List Int) zo1_1, *];exact qd (by simp only[simprocAttr,R0,qe,p280,Rs.ev,qa,qO (α:=List Int) zo1_1, *])
def F281_1_B(a0:qc)(a1:Int)(a2:List (List Int))(v8_1:Int)(o1_1:(List (List Int))):Option (((List (List Int)))⊕((List (List Int)))):=
 (F76 a0.Complex a1).bind fun x5=>
(getI a2 v8_1).bind fun x7=>
(chk (a1 - 1)).bind fun x9=>
(F99 a0.Complex x9).bind fun x10=>
(F80 a0.Complex.Prime x5 x7 x10).bind fun x12=>
(app 24 o1_1 [x12]).bind fun l15=>
some (.inl l15)
def F281_1_D(a0:qc)(a1:Int)(a2:List (List Int))(v8_1:Int)(o1_1:(List (List Int))):Option ((List (List Int))):=
 some o1_1
def F281(a0:qc)(a1:Int)(a2:List (List Int)):Option (List (List Int)):=
 (forR 0 (a2.length:Int) (F281_1_B a0 a1 a2) (F281_1_D a0 a1 a2) ([]:(List (List Int)))).bind fun zo1_1=>
 some zo1_1
def I281_1(a0:qc)(a1:Int)(a2:List (List Int))(v8_1:Int)(o1_1:(List (List Int)))(e:Env)(h:Heap):Prop:=
 ∃u2 k3:Nat,h=⟨[(0,none),(u2,some (o1_1.map Enc.enc))],k3⟩∧e.length=37∧e.at 1=V.int .i64 a1∧e.at 2=V.isl (a2.map Enc.enc)∧e.at 3=V.iptr [V.int .i64 a0.Complex.Prime,V.isl (a0.Complex.Dims.map Enc.enc),V.isl (a0.Complex.Maps.map Enc.enc),V.isl (a0.Levels.map Enc.enc)]∧e.at 7=V.sl 1 u2 0 o1_1.length 1∧e.at 8=V.int .i64 v8_1
def P281_1(a0:qc)(a1:Int)(a2:List (List Int))(zo1_1:(List (List Int)))(x:Ex)(e:Env)(h:Heap):Prop:=
 x= .normal∧∃u2 k3:Nat,h=⟨[(0,none),(u2,some (zo1_1.map Enc.enc))],k3⟩∧e.length=37∧e.at 7=V.sl 1 u2 0 zo1_1.length 1
theorem l281_1(a0:qc)(a1:Int)(a2:List (List Int)){lo:Int}{s:(List (List Int))}{t:(List (List Int))}(hF:forR lo (a2.length:Int) (F281_1_B a0 a1 a2) (F281_1_D a0 a1 a2) s=some t){e:Env}{h:Heap}(hI:I281_1 a0 a1 a2 lo s e h):W A c281_1 e h (P281_1 a0 a1 a2 t):=by
 show W A (.block 0 (.loop false b281_1)) e h _;rw[qi];refine qr hF 2 (by obtain⟨_,_,rfl,_⟩:=hI; rfl) (I281_1 a0 a1 a2) hI ?_ ?_
 ·rintro v8_1 o1_1 e h ⟨u2,k3,rfl,h_1⟩ hlt hw o ho
  unfold F281_1_B at ho;obtain⟨x5,gx5,ho⟩:=bS ho;have w6:=s76 a0.Complex a1 gx5;obtain⟨x7,gx7,ho⟩:=bS ho;obtain⟨w8a,w8b⟩:=ql gx7;obtain⟨x9,gx9,ho⟩:=bS ho;have wx9:=qx gx9;obtain⟨x10,gx10,ho⟩:=bS ho;have w11:=s99 a0.Complex x9 gx10;obtain⟨x12,gx12,ho⟩:=bS ho;have w13:=s80 a0.Complex.Prime x5 x7 x10 gx12;obtain⟨l15,gl15,ho⟩:=bS ho;have w14:=fun a b c d e=> qC (α:=List Int) (n:=o1_1.length) (m:=1) (ds:=[V.isl (x12.map Enc.enc)]) gl15 (by first|rfl|simp) (by first|rfl|simp) rfl a b c d e;have w14l:=qM gl15;cases ho;simp only[simprocAttr,R0,b281_1, *];refine ai rfl (ei _ (ei _ (ai rfl ?_)));simp only[simprocAttr,R0, *]
 ·rintro v8_1 o1_1 e h ⟨u2,k3,rfl,h_1⟩ hge t1 ho
  unfold F281_1_D at ho;cases ho;simp only[simprocAttr,R0,b281_1, *];intro ht; subst ht;refine ai rfl (ei _ (ei _ (ai rfl ?_)));simp only[simprocAttr,R0, *]
theorem s281(a0:qc)(a1:Int)(a2:List (List Int)){r:List (List Int)}(hF:F281 a0 a1 a2=some r):ans A 281 [(eF a0),V.int .i64 a1,V.isl (a2.map Enc.enc)]=some (Enc.enc r):=by
 refine qu (f:=p281) rfl rfl rfl fun e hl he=>?_;have h0_0:e.at 0=(eF a0):=he 0 _ rfl;have h1_0:e.at 1=V.int .i64 a1:=he 1 _ rfl;have h2_0:e.at 2=V.isl (a2.map Enc.enc):=he 2 _ rfl;have hl_0:e.length=37:=hl;clear he hl;show W A b281 e ⟨[],0⟩ _;unfold F281 at hF;obtain⟨zo1_1,gt16,hF⟩:=bS hF;simp only[simprocAttr, -Int.reduceNatCast',R0,b281, *];refine W.mono (l281_1 a0 a1 a2 gt16 (ei _ (ei _ (ai rfl ?_)))) ?_
 ·simp only[simprocAttr, -Int.reduceNatCast',R0, *]
 rintro _ e _ ⟨rfl,u2,k3,rfl,hl_4,h7_4⟩;have hE:=wA hF; subst hE;simp only[simprocAttr, -Int.reduceNatCast',R0, *];exact qd (by simp only[simprocAttr, -Int.reduceNatCast',R0,qe,p281,Rs.ev,qa,frzs (α:=List Int) zo1_1,qO (α:=List Int) zo1_1, *])
def F279(a0:qc)(a1:Int)(a2:Int)(a3:Int):Option (List (List Int)):=
 (chk (a1 - 1)).bind fun x1=>
 (chk (a3 - 1)).bind fun x2=>
 (F280 a0 x1 a2 x2).bind fun x3=>
 (app 24 ([]:List (List Int)) x3).bind fun l6=>
 (chk (a2+1)).bind fun x7=>
 if x7 < (a0.Levels.length:Int)then
  (chk (a3+a1)).bind fun x9=>
  (chk (x9 - 1)).bind fun x10=>
  (F280 a0 x1 x7 x10).bind fun x11=>
  (F281 a0 x7 x11).bind fun x13=>
  (app 24 l6 x13).bind fun l16=>
  (F131 a0.Complex.Prime l16).bind fun x17=>
  some x17
 else
  (F131 a0.Complex.Prime l6).bind fun x19=>
  some x19
theorem s279(a0:qc)(a1:Int)(a2:Int)(a3:Int){r:List (List Int)}(hF:F279 a0 a1 a2 a3=some r):ans A 279 [(eF a0),V.int .i64 a1,V.int .i64 a2,V.int .i64 a3]=some (Enc.enc r):=by
 refine qu (f:=p279) rfl rfl rfl fun e hl he=>?_;have h0_0:e.at 0=(eF a0):=he 0 _ rfl;have h1_0:e.at 1=V.int .i64 a1:=he 1 _ rfl;have h2_0:e.at 2=V.int .i64 a2:=he 2 _ rfl;have h3_0:e.at 3=V.int .i64 a3:=he 3 _ rfl;have hl_0:e.length=46:=hl;clear he hl;have h_0:=ai hl_0 (ai h0_0 (ai h1_0 (ai h2_0 h3_0)));show W A b279 e ⟨[],0⟩ _;unfold F279 at hF;obtain⟨x1,gx1,hF⟩:=bS hF;have wx1:=qx gx1;obtain⟨x2,gx2,hF⟩:=bS hF;have wx2:=qx gx2;obtain⟨x3,gx3,hF⟩:=bS hF;have w4:ans A 280 [(eF a0),V.int .i64 x1,V.int .i64 a2,V.int .i64 x2]=some (V.isl (x3.map Enc.enc)):=s280 a0 x1 a2 x2 gx3;obtain⟨l6,gl6,hF⟩:=bS hF;have w5:=fun a b c d e=> qC (α:=List Int) (n:=0) (m:=x3.length) (ds:=List.map Enc.enc x3) gl6 (by first|rfl|simp) (by first|rfl|simp) rfl a b c d e;have w5l:=qM gl6;obtain⟨x7,gx7,hF⟩:=bS hF;have wx7:=qx gx7;by_cases c8:x7 < (a0.Levels.length:Int)
 ·rw[if_pos c8]at hF
  obtain⟨x9,gx9,hF⟩:=bS hF;have wx9:=qx gx9;obtain⟨x10,gx10,hF⟩:=bS hF;have wx10:=qx gx10;obtain⟨x11,gx11,hF⟩:=bS hF;have w12:ans A 280 [(eF a0),V.int .i64 x1,V.int .i64 x7,V.int .i64 x10]=some (V.isl (x11.map Enc.enc)):=s280 a0 x1 x7 x10 gx11;obtain⟨x13,gx13,hF⟩:=bS hF;have w14:ans A 281 [(eF a0),V.int .i64 x7,V.isl (x11.map Enc.enc)]=some (V.isl (x13.map Enc.enc)):=s281 a0 x7 x11 gx13;obtain⟨l16,gl16,hF⟩:=bS hF;have w15:=fun a b c d e=> qC (α:=List Int) (n:=l6.length) (m:=x13.length) (ds:=List.map Enc.enc x13) gl16 (by first|rfl|simp) (by first|rfl|simp) rfl a b c d e;have w15l:=qM gl16;obtain⟨x17,gx17,hF⟩:=bS hF;have w18:ans A 131 [V.int .i64 a0.Complex.Prime,V.isl (l16.map Enc.enc)]=some (V.isl (x17.map Enc.enc)):=s131 a0.Complex.Prime l16 gx17;cases hF;simp only[simprocAttr,R0,b279,h_0,wx1,wx2,w4,w5,wx7,eq_true c8,wx9,wx10,w12,w14,w15,qO (α:=List Int) l16,w18];exact qd (by simp only[simprocAttr,R0,qe,p279,Rs.ev,qa,h_0,wx1,wx2,w4,w5,wx7,eq_true c8,wx9,wx10,w12,w14,w15,qO (α:=List Int) l16,w18])
 ·rw[if_neg c8]at hF
  obtain⟨x19,gx19,hF⟩:=bS hF;have w20:ans A 131 [V.int .i64 a0.Complex.Prime,V.isl (l6.map Enc.enc)]=some (V.isl (x19.map Enc.enc)):=s131 a0.Complex.Prime l6 gx19;cases hF;simp only[simprocAttr,R0,b279,h_0,wx1,wx2,w4,w5,wx7,eq_false c8,qO (α:=List Int) l6,w20];exact qd (by simp only[simprocAttr,R0,qe,p279,Rs.ev,qa,h_0,wx1,wx2,w4,w5,wx7,eq_false c8,qO (α:=List Int) l6,w20])
def xK(a0:Int)(a2:List (List Int))(v8_1:Int)(x11:Int)(s:(List Int)×Int):Option (((List Int)×Int)⊕((List Int))):=
 match s with
 |(o0_2,v10_2)=>
  if v10_2 < ((o0_2.length:Nat):Int)then
   (getI o0_2 v10_2).bind fun x19=>
   (getI a2 v8_1).bind fun x21=>
   (getI x21 v10_2).bind fun x23=>
   (chk (x11*x23)).bind fun x25=>
   (chk (x19 - x25)).bind fun x26=>
   (F127 a0 x26).bind fun x27=>
   (setI o0_2 v10_2 x27).bind fun l29=>
   (chk (v10_2+1)).bind fun x31=>
   some (.inl (l29,x31))
  else
   some (.inr o0_2)
def F330_1_B(a0:Int)(a2:List (List Int))(v8_1:Int)(o0_1:(List Int)):Option (((List Int))⊕((List Int))):=
 (getI a2 v8_1).bind fun x7=>
(F81 x7).bind fun x9=>
(getI o0_1 x9).bind fun x11=>
if x11=0 then
 some (.inl o0_1)
else
 (zD (xK a0 a2 v8_1 x11) (o0_1,0)).bind fun zo0_2=>
 some (.inl zo0_2)
def F330_1_D(a0:Int)(a2:List (List Int))(v8_1:Int)(o0_1:(List Int)):Option ((List Int)):=
 some o0_1
def F330(a0:Int)(a1:List Int)(a2:List (List Int)):Option (List Int):=
 (F94 a1).bind fun x1=>
 (forR 0 (a2.length:Int) (F330_1_B a0 a2) (F330_1_D a0 a2) x1).bind fun zo0_1=>
 some zo0_1
def I330_2(a0:Int)(a2:List (List Int))(v8_1:Int)(x11:Int)(s:(List Int)×Int)(e:Env)(h:Heap):Prop:=
 match s with
 |(o0_2,v10_2)=>
  ∃u15 k16:Nat,h=⟨[(u15,some (o0_2.map Enc.enc))],k16⟩∧e.length=55∧e.at 0=V.int .i64 a0∧e.at 2=V.isl (a2.map Enc.enc)∧e.at 7=V.sl 0 u15 0 o0_2.length 1∧e.at 8=V.int .i64 v8_1∧e.at 9=V.int .i64 x11∧e.at 10=V.int .i64 v10_2
def P330_2(a0:Int)(a2:List (List Int))(v8_1:Int)(x11:Int)(zo0_2:(List Int))(x:Ex)(e:Env)(h:Heap):Prop:=
 x= .normal∧∃u15 k16:Nat,h=⟨[(u15,some (zo0_2.map Enc.enc))],k16⟩∧e.length=55∧e.at 0=V.int .i64 a0∧e.at 2=V.isl (a2.map Enc.enc)∧e.at 7=V.sl 0 u15 0 zo0_2.length 1∧e.at 8=V.int .i64 v8_1
theorem l330_2(a0:Int)(a2:List (List Int))(v8_1:Int)(x11:Int){s:(List Int)×Int}{t:(List Int)}(hF:zD (xK a0 a2 v8_1 x11) s=some t){e:Env}{h:Heap}(hI:I330_2 a0 a2 v8_1 x11 s e h):W A c330_2 e h (P330_2 a0 a2 v8_1 x11 t):=by
 show W A (.block 2 (.loop false b330_2)) e h _;rw[qi];refine W_loop hF 1 (by rcases s with⟨_,_⟩; obtain⟨_,_,rfl,_⟩:=hI; rfl) (I330_2 a0 a2 v8_1 x11) hI ?_
 ·rintro⟨o0_2,v10_2⟩ e h ⟨u15,k16,rfl,h_14⟩ o ho
  unfold xK at ho;dsimp only at ho;by_cases c18:v10_2 < ((o0_2.length:Nat):Int)
  ·rw[if_pos c18]at ho
   obtain⟨x19,gx19,ho⟩:=bS ho;obtain⟨w20a,w20b⟩:=ql gx19;have w20c:=qV gx19;have w20d:List.drop (Int.toNat v10_2) (o0_2.map Enc.enc)=(V.int .i64 x19)::List.drop ((Int.toNat v10_2)+1) (o0_2.map Enc.enc):=jO w20b;obtain⟨x21,gx21,ho⟩:=bS ho;obtain⟨w22a,w22b⟩:=ql gx21;obtain⟨x23,gx23,ho⟩:=bS ho;obtain⟨w24a,w24b⟩:=ql gx23;obtain⟨x25,gx25,ho⟩:=bS ho;have wx25:=qx gx25;obtain⟨x26,gx26,ho⟩:=bS ho;have wx26:=qx gx26;obtain⟨x27,gx27,ho⟩:=bS ho;have w28:=s127 a0 x26 gx27;obtain⟨l29,gl29,ho⟩:=bS ho;obtain⟨w30a,w30b,w30c,w30d,w30e⟩:=xr gl29;replace w30e:List.take (Int.toNat v10_2) (o0_2.map Enc.enc)++[V.int .i64 x27]++List.drop (Int.toNat v10_2+1) (o0_2.map Enc.enc)=List.map Enc.enc l29:=w30e;obtain⟨x31,gx31,ho⟩:=bS ho;have wx31:=qx gx31;cases ho;simp only[simprocAttr,R0,b330_2, *];refine ai rfl (ei _ (ei _ (ai rfl ?_)));simp only[simprocAttr,R0, *]
  ·rw[if_neg c18]at ho
   cases ho;simp only[simprocAttr,R0,b330_2, *];intro ht; subst ht;simp only[simprocAttr,RR,RB];refine ai rfl (ei _ (ei _ (ai rfl ?_)));simp only[simprocAttr,R0, *]
def I330_1(a0:Int)(a2:List (List Int))(v8_1:Int)(o0_1:(List Int))(e:Env)(h:Heap):Prop:=
 ∃u4 k5:Nat,h=⟨[(u4,some (o0_1.map Enc.enc))],k5⟩∧e.length=55∧e.at 0=V.int .i64 a0∧e.at 2=V.isl (a2.map Enc.enc)∧e.at 7=V.sl 0 u4 0 o0_1.length 1∧e.at 8=V.int .i64 v8_1
def P330_1(a0:Int)(a2:List (List Int))(zo0_1:(List Int))(x:Ex)(e:Env)(h:Heap):Prop:=
 x= .normal∧∃u4 k5:Nat,h=⟨[(u4,some (zo0_1.map Enc.enc))],k5⟩∧e.length=55∧e.at 7=V.sl 0 u4 0 zo0_1.length 1
theorem l330_1(a0:Int)(a2:List (List Int)){lo:Int}{s:(List Int)}{t:(List Int)}(hF:forR lo (a2.length:Int) (F330_1_B a0 a2) (F330_1_D a0 a2) s=some t){e:Env}{h:Heap}(hI:I330_1 a0 a2 lo s e h):W A c330_1 e h (P330_1 a0 a2 t):=by
 show W A (.block 0 (.loop false b330_1)) e h _;rw[qi];refine qr hF 1 (by obtain⟨_,_,rfl,_⟩:=hI; rfl) (I330_1 a0 a2) hI ?_ ?_
 ·rintro v8_1 o0_1 e h ⟨u4,k5,rfl,h_3⟩ hlt hw o ho
  unfold F330_1_B at ho;obtain⟨x7,gx7,ho⟩:=bS ho;obtain⟨w8a,w8b⟩:=ql gx7;obtain⟨x9,gx9,ho⟩:=bS ho;have w10:=s81 x7 gx9;obtain⟨x11,gx11,ho⟩:=bS ho;obtain⟨w12a,w12b⟩:=ql gx11;have w12c:=qV gx11;have w12d:List.drop (Int.toNat x9) (o0_1.map Enc.enc)=(V.int .i64 x11)::List.drop ((Int.toNat x9)+1) (o0_1.map Enc.enc):=jO w12b;by_cases c13:x11=0
  ·rw[if_pos c13]at ho
   cases ho;simp only[simprocAttr,R0,b330_1, *];refine ai rfl (ei _ (ei _ (ai rfl ?_)));simp only[simprocAttr,R0, *]
  ·rw[if_neg c13]at ho
   obtain⟨zo0_2,gt32,ho⟩:=bS ho;simp only[simprocAttr,R0,b330_1, *];refine W.mono (l330_2 a0 a2 v8_1 x11 gt32 (ei _ (ei _ (ai rfl ?_)))) ?_
   ·simp only[simprocAttr,R0, *]
   rintro _ e _ ⟨rfl,u15,k16,rfl,h_17⟩;cases ho;simp only[simprocAttr,R0, *];refine ai rfl (ei _ (ei _ (ai rfl ?_)));simp only[simprocAttr,R0, *]
 ·rintro v8_1 o0_1 e h ⟨u4,k5,rfl,h_3⟩ hge t1 ho
  unfold F330_1_D at ho;cases ho;simp only[simprocAttr,R0,b330_1, *];intro ht; subst ht;refine ai rfl (ei _ (ei _ (ai rfl ?_)));simp only[simprocAttr,R0, *]
theorem s330(a0:Int)(a1:List Int)(a2:List (List Int)){r:List Int}(hF:F330 a0 a1 a2=some r):ans A 330 [V.int .i64 a0,V.isl (a1.map Enc.enc),V.isl (a2.map Enc.enc)]=some (Enc.enc r):=by
 refine qu (f:=p330) rfl rfl rfl fun e hl he=>?_;have h0_0:e.at 0=V.int .i64 a0:=he 0 _ rfl;have h1_0:e.at 1=V.isl (a1.map Enc.enc):=he 1 _ rfl;have h2_0:e.at 2=V.isl (a2.map Enc.enc):=he 2 _ rfl;have hl_0:e.length=55:=hl;clear he hl;show W A b330 e ⟨[],0⟩ _;unfold F330 at hF;obtain⟨x1,gx1,hF⟩:=bS hF;have w2:tans A 94 [1] [V.isl (a1.map Enc.enc)]=some (V.isl (x1.map Enc.enc)):=t94 a1 gx1;have w2t:=zt (α:=Int) x1;obtain⟨zo0_1,gt33,hF⟩:=bS hF;simp only[simprocAttr, -Int.reduceNatCast',R0,b330, *];refine W.mono (l330_1 a0 a2 gt33 (ei _ (ei _ (ai rfl ?_)))) ?_
 ·simp only[simprocAttr, -Int.reduceNatCast',R0, *]
 rintro _ e _ ⟨rfl,u4,k5,rfl,hl_6,h7_6⟩;have hE:=wA hF; subst hE;simp only[simprocAttr, -Int.reduceNatCast',R0, *];exact qd (by simp only[simprocAttr, -Int.reduceNatCast',R0,qe,p330,Rs.ev,qa,frzs (α:=Int) zo0_1,qO (α:=Int) zo0_1, *])
def F329_1_B(a0:qc)(x1:List (List Int))(x3:List (List Int))(v12_1:Int)(o1_1:(List (List Int))):Option (((List (List Int)))⊕((List (List Int)))):=
 (getI x1 v12_1).bind fun x9=>
(F330 a0.Complex.Prime x9 x3).bind fun x11=>
(app 24 o1_1 [x11]).bind fun l14=>
some (.inl l14)
def F329_1_D(a0:qc)(x1:List (List Int))(x3:List (List Int))(v12_1:Int)(o1_1:(List (List Int))):Option ((List (List Int))):=
 some o1_1
def F329(a0:qc)(a1:Int)(a2:Int)(a3:Int):Option (List (List Int)):=
 (F280 a0 a1 a2 a3).bind fun x1=>
 (F279 a0 a1 a2 a3).bind fun x3=>
 (forR 0 (x1.length:Int) (F329_1_B a0 x1 x3) (F329_1_D a0 x1 x3) ([]:(List (List Int)))).bind fun zo1_1=>
 (F131 a0.Complex.Prime zo1_1).bind fun x16=>
 some x16
def I329_1(a0:qc)(x1:List (List Int))(x3:List (List Int))(v12_1:Int)(o1_1:(List (List Int)))(e:Env)(h:Heap):Prop:=
 ∃u6 k7:Nat,h=⟨[(0,none),(u6,some (o1_1.map Enc.enc))],k7⟩∧e.length=47∧e.at 4=V.iptr [V.int .i64 a0.Complex.Prime,V.isl (a0.Complex.Dims.map Enc.enc),V.isl (a0.Complex.Maps.map Enc.enc),V.isl (a0.Levels.map Enc.enc)]∧e.at 9=V.isl (x1.map Enc.enc)∧e.at 10=V.isl (x3.map Enc.enc)∧e.at 11=V.sl 1 u6 0 o1_1.length 1∧e.at 12=V.int .i64 v12_1
def P329_1(a0:qc)(x1:List (List Int))(x3:List (List Int))(zo1_1:(List (List Int)))(x:Ex)(e:Env)(h:Heap):Prop:=
 x= .normal∧∃u6 k7:Nat,h=⟨[(0,none),(u6,some (zo1_1.map Enc.enc))],k7⟩∧e.length=47∧e.at 4=V.iptr [V.int .i64 a0.Complex.Prime,V.isl (a0.Complex.Dims.map Enc.enc),V.isl (a0.Complex.Maps.map Enc.enc),V.isl (a0.Levels.map Enc.enc)]∧e.at 11=V.sl 1 u6 0 zo1_1.length 1
theorem l329_1(a0:qc)(x1:List (List Int))(x3:List (List Int)){lo:Int}{s:(List (List Int))}{t:(List (List Int))}(hF:forR lo (x1.length:Int) (F329_1_B a0 x1 x3) (F329_1_D a0 x1 x3) s=some t){e:Env}{h:Heap}(hI:I329_1 a0 x1 x3 lo s e h):W A c329_1 e h (P329_1 a0 x1 x3 t):=by
 show W A (.block 0 (.loop false b329_1)) e h _;rw[qi];refine qr hF 2 (by obtain⟨_,_,rfl,_⟩:=hI; rfl) (I329_1 a0 x1 x3) hI ?_ ?_
 ·rintro v12_1 o1_1 e h ⟨u6,k7,rfl,h_5⟩ hlt hw o ho
  unfold F329_1_B at ho;obtain⟨x9,gx9,ho⟩:=bS ho;obtain⟨w10a,w10b⟩:=ql gx9;obtain⟨x11,gx11,ho⟩:=bS ho;have w12:=s330 a0.Complex.Prime x9 x3 gx11;obtain⟨l14,gl14,ho⟩:=bS ho;have w13:=fun a b c d e=> qC (α:=List Int) (n:=o1_1.length) (m:=1) (ds:=[V.isl (x11.map Enc.enc)]) gl14 (by first|rfl|simp) (by first|rfl|simp) rfl a b c d e;have w13l:=qM gl14;cases ho;simp only[simprocAttr,R0,b329_1, *];refine ai rfl (ei _ (ei _ (ai rfl ?_)));simp only[simprocAttr,R0, *]
 ·rintro v12_1 o1_1 e h ⟨u6,k7,rfl,h_5⟩ hge t1 ho
  unfold F329_1_D at ho;cases ho;simp only[simprocAttr,R0,b329_1, *];intro ht; subst ht;refine ai rfl (ei _ (ei _ (ai rfl ?_)));simp only[simprocAttr,R0, *]
theorem s329(a0:qc)(a1:Int)(a2:Int)(a3:Int){r:List (List Int)}(hF:F329 a0 a1 a2 a3=some r):ans A 329 [(eF a0),V.int .i64 a1,V.int .i64 a2,V.int .i64 a3]=some (Enc.enc r):=by
 refine qu (f:=p329) rfl rfl rfl fun e hl he=>?_;have h0_0:e.at 0=(eF a0):=he 0 _ rfl;have h1_0:e.at 1=V.int .i64 a1:=he 1 _ rfl;have h2_0:e.at 2=V.int .i64 a2:=he 2 _ rfl;have h3_0:e.at 3=V.int .i64 a3:=he 3 _ rfl;have hl_0:e.length=47:=hl;clear he hl;show W A b329 e ⟨[],0⟩ _;unfold F329 at hF;obtain⟨x1,gx1,hF⟩:=bS hF;have w2:=s280 a0 a1 a2 a3 gx1;obtain⟨x3,gx3,hF⟩:=bS hF;have w4:=s279 a0 a1 a2 a3 gx3;obtain⟨zo1_1,gt15,hF⟩:=bS hF;simp only[simprocAttr,R0,b329, *];refine W.mono (l329_1 a0 x1 x3 gt15 (ei _ (ei _ (ai rfl ?_)))) ?_
 ·simp only[simprocAttr,R0, *]
 rintro _ e _ ⟨rfl,u6,k7,rfl,h_8⟩;obtain⟨x16,gx16,hF⟩:=bS hF;have w17:=s131 a0.Complex.Prime zo1_1 gx16;cases hF;simp only[simprocAttr,R0,qO (α:=List Int) zo1_1, *];exact qd (by simp only[simprocAttr,R0,qe,p329,Rs.ev,qa,qO (α:=List Int) zo1_1, *])
def F364_1_B(x4:qc)(x35:List Int)(x37:List (List Int))(v27_1:Int)(o2_1:(List Int)):Option (((List Int))⊕((List Int))):=
 (getI x37 v27_1).bind fun x43=>
(F81 x43).bind fun x45=>
(getI x35 x45).bind fun x47=>
(app 8 o2_1 [x47]).bind fun l50=>
some (.inl l50)
def F364_1_D(x4:qc)(x35:List Int)(x37:List (List Int))(v27_1:Int)(o2_1:(List Int)):Option ((List Int)):=
 some o2_1
def F364(a0:GDga)(a1:Int)(a2:Int)(a3:Int)(a4:Int)(a5:Int)(a6:Int)(a7:Int):Option (T2 (List Int) Int):=
 (F158 a0 []).bind fun x1=>
 if x1=0 then
  (F65 a0).bind fun x4=>
  (F247 x4 a1 a2 a3).bind fun x6=>
  (F247 x4 a1 a5 a6).bind fun x8=>
  if x6=0 then
   if x8=0 then
    (chk (a3+a6)).bind fun x12=>
    if 5 < x12 then
     some ⟨([]:List Int),2⟩
    else
     (F329 x4 a1 a2 a3).bind fun x14=>
     (F329 x4 a1 a5 a6).bind fun x16=>
     (chk ((x14.length:Int) - 1)).bind fun x18=>
     (F54 a4 0 x18).bind fun x19=>
     if x19=true then
      (chk ((x16.length:Int) - 1)).bind fun x21=>
      (F54 a7 0 x21).bind fun x22=>
      if x22=true then
       (chk (a2+a5)).bind fun x24=>
       if(x4.Levels.length:Int)≤x24 then
        some ⟨[],0⟩
       else
        (getI x14 a4).bind fun x27=>
        (getI x16 a7).bind fun x29=>
        (F252 a0 a2 x27 a5 x29).bind fun x31=>
        (F279 x4 a1 x24 x12).bind fun x33=>
        (F330 a0.Prime x31 x33).bind fun x35=>
        (F329 x4 a1 x24 x12).bind fun x37=>
        (forR 0 (x37.length:Int) (F364_1_B x4 x35 x37) (F364_1_D x4 x35 x37) ([]:(List Int))).bind fun zo2_1=>
        some ⟨zo2_1,0⟩
      else
       some ⟨([]:List Int),2⟩
     else
      some ⟨([]:List Int),2⟩
   else
    some ⟨([]:List Int),2⟩
  else
   some ⟨([]:List Int),2⟩
 else
  some ⟨([]:List Int),x1⟩
def I364_1(x4:qc)(x35:List Int)(x37:List (List Int))(v27_1:Int)(o2_1:(List Int))(e:Env)(h:Heap):Prop:=
 ∃u40 k41:Nat,h=⟨[(0,none),(1,some [V.int .i64 x4.Complex.Prime,V.isl (x4.Complex.Dims.map Enc.enc),V.isl (x4.Complex.Maps.map Enc.enc),V.isl (x4.Levels.map Enc.enc)]),(u40,some (o2_1.map Enc.enc))],k41⟩∧e.length=141∧e.at 24=V.sl 2 u40 0 o2_1.length 1∧e.at 25=V.isl (x35.map Enc.enc)∧e.at 26=V.isl (x37.map Enc.enc)∧e.at 27=V.int .i64 v27_1
def P364_1(x4:qc)(x35:List Int)(x37:List (List Int))(zo2_1:(List Int))(x:Ex)(e:Env)(h:Heap):Prop:=
 x= .normal∧∃u40 k41:Nat,h=⟨[(0,none),(1,some [V.int .i64 x4.Complex.Prime,V.isl (x4.Complex.Dims.map Enc.enc),V.isl (x4.Complex.Maps.map Enc.enc),V.isl (x4.Levels.map Enc.enc)]),(u40,some (zo2_1.map Enc.enc))],k41⟩∧e.length=141∧e.at 24=V.sl 2 u40 0 zo2_1.length 1
theorem l364_1(x4:qc)(x35:List Int)(x37:List (List Int)){lo:Int}{s:(List Int)}{t:(List Int)}(hF:forR lo (x37.length:Int) (F364_1_B x4 x35 x37) (F364_1_D x4 x35 x37) s=some t){e:Env}{h:Heap}(hI:I364_1 x4 x35 x37 lo s e h):W A c364_1 e h (P364_1 x4 x35 x37 t):=by
 show W A (.block 0 (.loop false b364_1)) e h _;rw[qi];refine qr hF 3 (by obtain⟨_,_,rfl,_⟩:=hI; rfl) (I364_1 x4 x35 x37) hI ?_ ?_
 ·rintro v27_1 o2_1 e h ⟨u40,k41,rfl,h_39⟩ hlt hw o ho
  unfold F364_1_B at ho;obtain⟨x43,gx43,ho⟩:=bS ho;obtain⟨w44a,w44b⟩:=ql gx43;obtain⟨x45,gx45,ho⟩:=bS ho;have w46:=s81 x43 gx45;obtain⟨x47,gx47,ho⟩:=bS ho;obtain⟨w48a,w48b⟩:=ql gx47;obtain⟨l50,gl50,ho⟩:=bS ho;have w49:=fun a b c d e=> qC (α:=Int) (n:=o2_1.length) (m:=1) (ds:=[V.int .i64 x47]) gl50 (by first|rfl|simp) (by first|rfl|simp) rfl a b c d e;have w49l:=qM gl50;cases ho;simp only[simprocAttr,R0,b364_1, *];refine ai rfl (ei _ (ei _ (ai rfl ?_)));simp only[simprocAttr,R0, *]
 ·rintro v27_1 o2_1 e h ⟨u40,k41,rfl,h_39⟩ hge t1 ho
  unfold F364_1_D at ho;cases ho;simp only[simprocAttr,R0,b364_1, *];intro ht; subst ht;refine ai rfl (ei _ (ei _ (ai rfl ?_)));simp only[simprocAttr,R0, *]
set_option maxHeartbeats 8000000 in
theorem s364(a0:GDga)(a1:Int)(a2:Int)(a3:Int)(a4:Int)(a5:Int)(a6:Int)(a7:Int){r:T2 (List Int) Int}(hF:F364 a0 a1 a2 a3 a4 a5 a6 a7=some r):ans A 364 [V.agg (qb a0),V.int .i64 a1,V.int .i64 a2,V.int .i64 a3,V.int .i64 a4,V.int .i64 a5,V.int .i64 a6,V.int .i64 a7]=some (EncR.enc r):=by
 refine qu (f:=p364) rfl rfl rfl fun e hl he=>?_;have h0_0:e.at 0=V.agg (qb a0):=he 0 _ rfl;have h1_0:e.at 1=V.int .i64 a1:=he 1 _ rfl;have h2_0:e.at 2=V.int .i64 a2:=he 2 _ rfl;have h3_0:e.at 3=V.int .i64 a3:=he 3 _ rfl;have h4_0:e.at 4=V.int .i64 a4:=he 4 _ rfl;have h5_0:e.at 5=V.int .i64 a5:=he 5 _ rfl;have h6_0:e.at 6=V.int .i64 a6:=he 6 _ rfl;have h7_0:e.at 7=V.int .i64 a7:=he 7 _ rfl;have hl_0:e.length=141:=hl;clear he hl;have h_0:=ai hl_0 (ai h0_0 (ai h1_0 (ai h2_0 (ai h3_0 (ai h4_0 (ai h5_0 (ai h6_0 h7_0)))))));show W A b364 e ⟨[],0⟩ _;unfold F364 at hF;obtain⟨x1,gx1,hF⟩:=bS hF;have w2:ans A 158 [V.agg (qb a0),V.isl []]=some (V.int .i64 x1):=s158 a0 [] gx1;by_cases c3:x1=0
 ·rw[if_pos c3]at hF
  obtain⟨x4,gx4,hF⟩:=bS hF;have w5:ans A 65 [V.agg (qb a0)]=some ((eF x4)):=s65 a0 gx4;obtain⟨x6,gx6,hF⟩:=bS hF;have w7:ans A 247 [(eF x4),V.int .i64 a1,V.int .i64 a2,V.int .i64 a3]=some (V.int .i64 x6):=s247 x4 a1 a2 a3 gx6;obtain⟨x8,gx8,hF⟩:=bS hF;have w9:ans A 247 [(eF x4),V.int .i64 a1,V.int .i64 a5,V.int .i64 a6]=some (V.int .i64 x8):=s247 x4 a1 a5 a6 gx8;by_cases c10:x6=0
  ·rw[if_pos c10]at hF
   by_cases c11:x8=0
   ·rw[if_pos c11]at hF
    obtain⟨x12,gx12,hF⟩:=bS hF;have wx12:=qx gx12;by_cases c13:5 < x12
    ·rw[if_pos c13]at hF
     cases hF;simp only[simprocAttr,R0,b364, *];exact qd (by simp only[simprocAttr,R0,qe,p364,Rs.ev,qa, *])
    ·rw[if_neg c13]at hF
     obtain⟨x14,gx14,hF⟩:=bS hF;have w15:ans A 329 [(eF x4),V.int .i64 a1,V.int .i64 a2,V.int .i64 a3]=some (V.isl (x14.map Enc.enc)):=s329 x4 a1 a2 a3 gx14;obtain⟨x16,gx16,hF⟩:=bS hF;have w17:ans A 329 [(eF x4),V.int .i64 a1,V.int .i64 a5,V.int .i64 a6]=some (V.isl (x16.map Enc.enc)):=s329 x4 a1 a5 a6 gx16;obtain⟨x18,gx18,hF⟩:=bS hF;have wx18:=qx gx18;obtain⟨x19,gx19,hF⟩:=bS hF;have w20:ans A 54 [V.int .i64 a4,V.int .i64 0,V.int .i64 x18]=some (V.bool x19):=s54 a4 0 x18 gx19;cases x19 with
     |true=>
      rw[if_pos rfl]at hF;obtain⟨x21,gx21,hF⟩:=bS hF;have wx21:=qx gx21;obtain⟨x22,gx22,hF⟩:=bS hF;have w23:ans A 54 [V.int .i64 a7,V.int .i64 0,V.int .i64 x21]=some (V.bool x22):=s54 a7 0 x21 gx22;cases x22 with
      |true=>
       rw[if_pos rfl]at hF;obtain⟨x24,gx24,hF⟩:=bS hF;have wx24:=qx gx24;by_cases c25:(x4.Levels.length:Int)≤x24
       ·rw[if_pos c25]at hF
        cases hF;simp only[simprocAttr,R0,b364, *];exact qd (by simp only[simprocAttr,R0,qe,p364,Rs.ev,qa, *])
       ·rw[if_neg c25]at hF
        have w26:qf none (qb a0)=some (V.int .i64 a0.Prime):=qA (a:=0) rfl;obtain⟨x27,gx27,hF⟩:=bS hF;obtain⟨w28a,w28b⟩:=ql gx27;obtain⟨x29,gx29,hF⟩:=bS hF;obtain⟨w30a,w30b⟩:=ql gx29;obtain⟨x31,gx31,hF⟩:=bS hF;have w32:ans A 252 [V.agg (qb a0),V.int .i64 a2,V.isl (x27.map Enc.enc),V.int .i64 a5,V.isl (x29.map Enc.enc)]=some (V.isl (x31.map Enc.enc)):=s252 a0 a2 x27 a5 x29 gx31;obtain⟨x33,gx33,hF⟩:=bS hF;have w34:ans A 279 [(eF x4),V.int .i64 a1,V.int .i64 x24,V.int .i64 x12]=some (V.isl (x33.map Enc.enc)):=s279 x4 a1 x24 x12 gx33;obtain⟨x35,gx35,hF⟩:=bS hF;have w36:ans A 330 [V.int .i64 a0.Prime,V.isl (x31.map Enc.enc),V.isl (x33.map Enc.enc)]=some (V.isl (x35.map Enc.enc)):=s330 a0.Prime x31 x33 gx35;obtain⟨x37,gx37,hF⟩:=bS hF;have w38:ans A 329 [(eF x4),V.int .i64 a1,V.int .i64 x24,V.int .i64 x12]=some (V.isl (x37.map Enc.enc)):=s329 x4 a1 x24 x12 gx37;obtain⟨zo2_1,gt51,hF⟩:=bS hF;simp only[simprocAttr,R0,b364, *];refine W.mono (l364_1 x4 x35 x37 gt51 (ei _ (ei _ (ai rfl ?_)))) ?_
        ·simp only[simprocAttr,R0, *]
        rintro _ e _ ⟨rfl,u40,k41,rfl,h_42⟩;cases hF;simp only[simprocAttr,R0, *];exact qd (by simp only[simprocAttr,R0,qe,p364,Rs.ev,qa,frzs (α:=Int) zo2_1,qO (α:=Int) zo2_1, *])
      |false=>
       rw[if_neg wC]at hF;cases hF;simp only[simprocAttr,R0,b364, *];exact qd (by simp only[simprocAttr,R0,qe,p364,Rs.ev,qa, *])
     |false=>
      rw[if_neg wC]at hF;cases hF;simp only[simprocAttr,R0,b364, *];exact qd (by simp only[simprocAttr,R0,qe,p364,Rs.ev,qa, *])
   ·rw[if_neg c11]at hF
    cases hF;simp only[simprocAttr,R0,b364, *];exact qd (by simp only[simprocAttr,R0,qe,p364,Rs.ev,qa, *])
  ·rw[if_neg c10]at hF
   cases hF;simp only[simprocAttr,R0,b364, *];exact qd (by simp only[simprocAttr,R0,qe,p364,Rs.ev,qa, *])
 ·rw[if_neg c3]at hF
  cases hF;simp only[simprocAttr,R0,b364, *];exact qd (by simp only[simprocAttr,R0,qe,p364,Rs.ev,qa, *])
def F72_1_B(a0:GDga)(a1:Int)(v10_1:Int)(o1_1:(List Int)):Option (((List Int))⊕((List Int))):=
 (ixI 8 v10_1).bind fun n6=>
if(a0.Degrees.val.getD n6 0)=a1 then
 (app 8 o1_1 [v10_1]).bind fun l11=>
 some (.inl l11)
else
 some (.inl o1_1)
def F72_1_D(a0:GDga)(a1:Int)(v10_1:Int)(o1_1:(List Int)):Option ((List Int)):=
 some o1_1
def F72(a0:GDga)(a1:Int):Option (List Int):=
 (forR 0 a0.Size (F72_1_B a0 a1) (F72_1_D a0 a1) ([]:(List Int))).bind fun zo1_1=>
 some zo1_1
def I72_1(a0:GDga)(a1:Int)(v10_1:Int)(o1_1:(List Int))(e:Env)(h:Heap):Prop:=
 ∃u3 k4:Nat,h=⟨[(0,none),(u3,some (o1_1.map Enc.enc))],k4⟩∧e.length=25∧e.at 1=V.int .i64 a1∧e.at 2=V.iptr (qb a0)∧e.at 5=V.sl 1 u3 0 o1_1.length 1∧e.at 9=V.int .i64 a0.Size∧e.at 10=V.int .i64 v10_1
def P72_1(a0:GDga)(a1:Int)(zo1_1:(List Int))(x:Ex)(e:Env)(h:Heap):Prop:=
 x= .normal∧∃u3 k4:Nat,h=⟨[(0,none),(u3,some (zo1_1.map Enc.enc))],k4⟩∧e.length=25∧e.at 5=V.sl 1 u3 0 zo1_1.length 1
theorem l72_1(a0:GDga)(a1:Int){lo:Int}{s:(List Int)}{t:(List Int)}(hF:forR lo a0.Size (F72_1_B a0 a1) (F72_1_D a0 a1) s=some t){e:Env}{h:Heap}(hI:I72_1 a0 a1 lo s e h):W A c72_1 e h (P72_1 a0 a1 t):=by
 show W A (.block 0 (.loop false b72_1)) e h _;rw[qi];refine qr hF 2 (by obtain⟨_,_,rfl,_⟩:=hI; rfl) (I72_1 a0 a1) hI ?_ ?_
 ·rintro v10_1 o1_1 e h ⟨u3,k4,rfl,h_2⟩ hlt hw o ho
  unfold F72_1_B at ho;obtain⟨n6,gn6,ho⟩:=bS ho;obtain⟨w7a,w7b,w7c,w7d⟩:=qU gn6;have w8:qf none (List.drop n6 (List.drop 2 (qb a0)))=some (V.int .i64 (a0.Degrees.val.getD n6 0)):=by simp only[wH]; exact qm (i:=n6) (by omega) (by omega)
  by_cases c9:(a0.Degrees.val.getD n6 0)=a1
  ·rw[if_pos c9]at ho
   obtain⟨l11,gl11,ho⟩:=bS ho;have w10:=fun a b c d e=> qC (α:=Int) (n:=o1_1.length) (m:=1) (ds:=[V.int .i64 v10_1]) gl11 (by first|rfl|simp) (by first|rfl|simp) rfl a b c d e;have w10l:=qM gl11;cases ho;simp only[simprocAttr, -Int.reduceNatCast',R0,b72_1, *];refine ai rfl (ei _ (ei _ (ai rfl ?_)));simp only[simprocAttr, -Int.reduceNatCast',R0, *]
  ·rw[if_neg c9]at ho
   cases ho;simp only[simprocAttr, -Int.reduceNatCast',R0,b72_1, *];refine ai rfl (ei _ (ei _ (ai rfl ?_)));simp only[simprocAttr, -Int.reduceNatCast',R0, *]
 ·rintro v10_1 o1_1 e h ⟨u3,k4,rfl,h_2⟩ hge t1 ho
  unfold F72_1_D at ho;cases ho;simp only[simprocAttr, -Int.reduceNatCast',R0,b72_1, *];intro ht; subst ht;refine ai rfl (ei _ (ei _ (ai rfl ?_)));simp only[simprocAttr, -Int.reduceNatCast',R0, *]
theorem s72(a0:GDga)(a1:Int){r:List Int}(hF:F72 a0 a1=some r):ans A 72 [V.agg (qb a0),V.int .i64 a1]=some (Enc.enc r):=by
 refine qu (f:=p72) rfl rfl rfl fun e hl he=>?_;have h0_0:e.at 0=V.agg (qb a0):=he 0 _ rfl;have h1_0:e.at 1=V.int .i64 a1:=he 1 _ rfl;have hl_0:e.length=25:=hl;clear he hl;show W A b72 e ⟨[],0⟩ _;unfold F72 at hF;have w1:qf none (List.drop 1 (qb a0))=some (V.int .i64 a0.Size):=qk rfl;obtain⟨zo1_1,gt12,hF⟩:=bS hF;simp only[simprocAttr, -Int.reduceNatCast',R0,b72, *];refine W.mono (l72_1 a0 a1 gt12 (ei _ (ei _ (ai rfl ?_)))) ?_
 ·simp only[simprocAttr, -Int.reduceNatCast',R0, *]
 rintro _ e _ ⟨rfl,u3,k4,rfl,hl_5,h5_5⟩;have hE:=wA hF; subst hE;simp only[simprocAttr, -Int.reduceNatCast',R0, *];exact qd (by simp only[simprocAttr, -Int.reduceNatCast',R0,qe,p72,Rs.ev,qa,frzs (α:=Int) zo1_1,qO (α:=Int) zo1_1, *])
def F73(a0:List Int):Option Int:=
 some (a0.length:Int)
theorem s73(a0:List Int){r:Int}(hF:F73 a0=some r):ans A 73 [V.isl (a0.map Enc.enc)]=some (Enc.enc r):=by
 refine qu (f:=p73) rfl rfl rfl fun e hl he=>?_;have h0_0:e.at 0=V.isl (a0.map Enc.enc):=he 0 _ rfl;have hl_0:e.length=5:=hl;clear he hl;show W A b73 e ⟨[],0⟩ _;unfold F73 at hF;cases hF;simp only[simprocAttr,R0,b73, *];exact qd (by simp only[simprocAttr,R0,qe,p73,Rs.ev,qa, *])
def F74_2_B(a1:List Int)(o1_1:List (List (List Int)))(q2_0_1:Int)(q2_1_1:List Int)(v6_1:Int)(x7:Int)(v22_2:Int)(o3_2:(List (List Int))):Option (((List (List Int)))⊕((List (List Int)))):=
 (chk (v6_1 - 1)).bind fun x13=>
(getI a1 x13).bind fun x14=>
(mkL 8 x14 0).bind fun l16=>
(app 24 o3_2 [l16]).bind fun l19=>
some (.inl l19)
def F74_2_D(a1:List Int)(o1_1:List (List (List Int)))(q2_0_1:Int)(q2_1_1:List Int)(v6_1:Int)(x7:Int)(v22_2:Int)(o3_2:(List (List Int))):Option ((List (List Int))):=
 some o3_2
def F74_1_B(a1:List Int)(v6_1:Int)(s:(List (List (List Int)))×Int×(List Int)):Option (((List (List (List Int)))×Int×(List Int))⊕((List (List (List Int)))×Int×(List Int))):=
 match s with
 |(o1_1,q2_0_1,q2_1_1)=>
  (getI a1 v6_1).bind fun x7=>
  (forR 0 x7 (F74_2_B a1 o1_1 q2_0_1 q2_1_1 v6_1 x7) (F74_2_D a1 o1_1 q2_0_1 q2_1_1 v6_1 x7) ([]:(List (List Int)))).bind fun zo3_2=>
  (app 24 o1_1 [zo3_2]).bind fun l22=>
  some (.inl (l22,q2_0_1,q2_1_1))
def F74_1_D(a1:List Int)(v6_1:Int)(s:(List (List (List Int)))×Int×(List Int)):Option ((List (List (List Int)))×Int×(List Int)):=
 match s with
 |(o1_1,q2_0_1,q2_1_1)=>
  some (o1_1,q2_0_1,q2_1_1)
def F74(a0:Int)(a1:List Int):Option qh:=
 (forR 1 (a1.length:Int) (F74_1_B a1) (F74_1_D a1) ([],a0,a1)).bind fun t25=> match t25 with
  |(zo1_1,zq2_0_1,zq2_1_1)=>
   some ⟨zq2_0_1,zq2_1_1,zo1_1⟩
set_option maxHeartbeats 8000000 in
theorem d74(a0:Int)(a1:List Int){r:qh}(hF:F74 a0 a1=some r)(E0:List (Nat×Option (List V)))(c0:Nat){dk du:Nat}(hd0:E0[dk]? =some (du,some (a1.map Enc.enc))):∃v h',res A 74 [V.int .i64 a0,V.sl dk du 0 a1.length 1] ⟨E0,c0⟩=some (v,h')∧r.Prime=a0∧r.Dims=a1∧∃m K,v=V.agg [V.int .i64 r.Prime,V.sl dk du 0 a1.length 1,m]∧Deep.rep h' m r.Maps K∧(∀k,K k→E0.length≤k)∧(∀k,k < E0.length→h'.ents[k]? =E0[k]?)∧E0.length≤h'.ents.length:=by
 have hdk:dk < E0.length:=(List.getElem?_eq_some_iff.1 hd0).1;refine res_dp (f:=p74) rfl rfl rfl fun e hl he=>?_;have h0_0:e.at 0=V.int .i64 a0:=he 0 _ rfl;have h1_0:e.at 1=V.sl dk du 0 a1.length 1:=he 1 _ rfl;have hl_0:e.length=41:=hl;clear he hl;show W A b74 e ⟨E0,c0⟩ _;unfold F74 at hF;obtain⟨t13,gt13,hF⟩:=bS hF;have ws:ans A 73 [V.isl (a1.map Enc.enc)]=some (V.int .i64 (a1.length:Int)):=s73 a1 rfl;simp only[simprocAttr, -Int.reduceNatCast',R0,b74,hl_0,h0_0,h1_0,le1,qR,ge2a,ge2b,ge3a,ge3b,ge3c,se2a,se2b,se3a,se3b,se3c,set_last];show W A (.block 0 (.loop true b74_1)) _ _ _;rw[qi];refine qr gt13 _ rfl (fun i s e h=> s.2=(a0,a1)∧∃u vs K,h.ents[E0.length]? =some (c0,some [V.int .i64 0,V.nils,V.nils])∧h.ents[E0.length+1]? =some (u,some vs)∧h.ents[E0.length+2]? =some (c0+2,some [V.int .i64 a0,V.sl dk du 0 a1.length 1,V.sl (E0.length+1) u 0 s.1.length 1])∧reps h vs s.1 K∧(∀k,K k→E0.length+3≤k)∧(∀k,k < E0.length→h.ents[k]? =E0[k]?)∧e.length=41∧e.at 1=V.sl dk du 0 a1.length 1∧e.at 4=V.ptr E0.length c0 0∧e.at 5=V.ptr (E0.length+2) (c0+2) 0∧e.at 6=V.int .i64 i) ?_ ?_ ?_
 ·refine⟨rfl,c0+1,[],fun _=> False,ge3a ..,ge3b ..,ge3c ..,fun _ x=> x,fun _ x=> x.elim,fun k q=>?_,?_⟩
  ·rw[wY,wY]; exact List.getElem?_append_left q
  simp only[simprocAttr, -Int.reduceNatCast',R0,hl_0,h0_0,h1_0]
 ·clear hl_0 h0_0 h1_0
  rintro i ⟨l,q⟩ e ⟨E,c⟩ ⟨rfl,u,vs,K,g1,g2,g3,g4,g5,g6,hl_1,h1_1,h4_1,h5_1,h6_1⟩ hlt hw o ho;unfold F74_1_B at ho;simp only at ho g1 g2 g3 g4 g6;have hDd:E[dk]? =some (du,some (a1.map Enc.enc)):=(g6 dk hdk).trans hd0;have wfz:frz ⟨E,c⟩ 16 (V.sl dk du 0 a1.length 1)=_:=frz_row hDd;obtain⟨x7,gx7,ho⟩:=bS ho;obtain⟨w8a,w8b⟩:=ql gx7;have w8c:=qV gx7;have w8d:qf none (List.drop (Int.toNat i) (a1.map Enc.enc))=some (V.int .i64 x7):=qE (by rw[List.getElem?_map,w8b]; rfl);have hDx:∀x,(E++[x])[dk]? =some (du,some (a1.map Enc.enc)):=fun x=>(List.getElem?_append_left (List.getElem?_eq_some_iff.1 hDd).1).trans hDd;obtain⟨rows,gt20,ho⟩:=bS ho;obtain⟨l22,gl22,ho⟩:=bS ho;obtain⟨q1,q2,rfl⟩:=app_w gl22;have hE:=wA ho; subst hE;have hE0:E0.length+2 < E.length:=(List.getElem?_eq_some_iff.1 g3).1;simp only[simprocAttr, -Int.reduceNatCast',R0,b74_1,hl_1,h1_1,h4_1,h5_1,h6_1,eq_true hlt,hw,ws,wfz,w8a,eq_true w8c,w8d,hDd,hDx];refine W.mono (Q:=fun x' e h=> x'= .normal∧∃u' vs' K',h.ents[E.length]? =some (u',some vs')∧reps h vs' rows K'∧(∀k,K' k→E.length+1≤k)∧(∀k,k < E.length→h.ents[k]? =E[k]?)∧e.length=41∧e.at 1=V.sl dk du 0 a1.length 1∧e.at 4=V.ptr E0.length c0 0∧e.at 5=V.ptr (E0.length+2) (c0+2) 0∧e.at 6=V.int .i64 i∧e.at 7=V.sl E.length u' 0 rows.length 1) ?_ ?_
  rotate_left
  ·rintro _ e ⟨E1,c1⟩ ⟨rfl,u',vs',K',f1,f2,f3,f4,hl_2,h1_2,h4_2,h5_2,h6_2,h7_2⟩
   simp only at f1 f4;have hln:=g4.len;have hE1:E.length < E1.length:=(List.getElem?_eq_some_iff.1 f1).1;have m0:=(f4 E0.length (by omega)).trans g1;have m1:=(f4 (E0.length+1) (by omega)).trans g2;have m2:=(f4 (E0.length+2) (by omega)).trans g3;have n2:∀y,(E1++[y])[E0.length+2]? =_:=fun y=>(List.getElem?_append_left (by omega)).trans m2;have n2':∀y z,((E1++[y]).set (E0.length+1) z)[E0.length+2]? =_:=fun y z=>(zg (by omega) (by omega)).trans m2;have w9:∀y c',zO 1 24 (.sl (E0.length+1) u 0 l.length 1) 1 [V.sl E.length u' 0 rows.length 1] ⟨E1++[y],c'⟩=_:=fun y c'=> zz (E:=E1++[y]) (vs:=vs) (by rw[List.getElem?_append_left (by omega)]; exact m1) hln (by simpa using q1) (by simpa using q2);simp only[simprocAttr, -Int.reduceNatCast',R0,hl_2,h1_2,h4_2,h5_2,h6_2,h7_2,hw,m2,n2,n2',qR,w9];have r0:Deep.rep ⟨E1,c1⟩ (V.sl E.length u' 0 rows.length 1) rows (fun k=> k=E.length∨K' k):=rep_at f1 f2 (fun q=> by have:=f3 _ q; omega);have hk:∀k,K k∨(k=E.length∨K' k)→E0.length+3≤k:=fun k q=> q.elim (g5 k) (fun q=> q.elim (fun q=> by omega) (fun q=> by have:=f3 k q; omega));have r1:=deep_round (h:=⟨E,c⟩) (h1:=⟨E1,c1⟩) (h2:=⟨((E1++[(c1,some [V.sl E.length u' 0 rows.length 1])]).set (E0.length+1) (c1+1,some (vs++[V.sl E.length u' 0 rows.length 1]))).set (E0.length+2) (c0+2,some [V.int .i64 a0,V.sl dk du 0 a1.length 1,V.sl (E0.length+1) (c1+1) 0 (l.length+1) 1]),c1+1+1⟩) (K:=K) g4
    r0 (fun k q=> q.elim (fun q=> by show E.length≤k; omega) (fun q=> by have:=f3 k q; show E.length≤k; omega)) f4 (fun k p q=> by
     have:=hk k q;rw[qS (by omega)];exact zg (by omega) p) (by show E.length≤E1.length; omega)
   refine ai rfl (ai rfl ⟨c1+1,vs++[V.sl E.length u' 0 rows.length 1],_,?_,?_,?_,r1,hk,fun k q=>?_,?_⟩)
   ·exact(qS (by omega)).trans ((zg (by omega) (by omega)).trans m0)
   ·exact(qS (by omega)).trans (qI (by simp; omega))
   ·simp only[wJ,wX,wU,vH]
    exact qI (by simp; omega)
   ·exact(qS (by omega)).trans ((zg (by omega) (by omega)).trans ((f4 k (by omega)).trans (g6 k q)))
   ·simp only[simprocAttr, -Int.reduceNatCast',R0,hl_2,h1_2,h4_2,h5_2,h6_2,h7_2,hw]
  show W A (.block 2 (.loop true b74_2)) _ _ _;rw[qi];refine qr gt20 _ rfl (fun j rs e h=>∃u' vs' K',h.ents[E.length]? =some (u',some vs')∧reps h vs' rs K'∧(∀k,K' k→E.length+1≤k)∧(∀k,k < E.length→h.ents[k]? =E[k]?)∧e.length=41∧e.at 1=V.sl dk du 0 a1.length 1∧e.at 4=V.ptr E0.length c0 0∧e.at 5=V.ptr (E0.length+2) (c0+2) 0∧e.at 6=V.int .i64 i∧e.at 7=V.sl E.length u' 0 rs.length 1∧e.at 21=V.int .i64 x7∧e.at 22=V.int .i64 j) ?_ ?_ ?_
  ·refine⟨c,[],fun _=> False,qR _ _,fun _ x=> x,fun _ x=> x.elim,fun k q=> List.getElem?_append_left q,?_⟩
   simp only[simprocAttr, -Int.reduceNatCast',R0,hl_1,h1_1,h4_1,h5_1,h6_1]
  ·clear hl_1 h1_1 h4_1 h5_1 h6_1
   rintro j rs e ⟨E1,c1⟩ ⟨u',vs',K',f1,f2,f3,f4,hl_1,h1_1,h4_1,h5_1,h6_1,h7_1,h21_1,h22_1⟩ hlt2 hw2 o ho;unfold F74_2_B at ho;obtain⟨x13,gx13,ho⟩:=bS ho;have wx13:=qx gx13;obtain⟨x14,gx14,ho⟩:=bS ho;obtain⟨w15a,w15b⟩:=ql gx14;have w15c:=qV gx14;have w15d:qf none (List.drop (Int.toNat x13) (a1.map Enc.enc))=some (V.int .i64 x14):=qE (by rw[List.getElem?_map,w15b]; rfl);obtain⟨l16,gl16,ho⟩:=bS ho;obtain⟨w17a,w17b,w17c,w17d,w17e⟩:=mkL_w gl16;replace w17e:(List.replicate (Int.toNat x14) [V.int .i64 0]).flatten=List.map Enc.enc l16:=w17e;obtain⟨l19,gl19,ho⟩:=bS ho;obtain⟨q1,q2,rfl⟩:=app_w gl19;have hE:=wA ho; subst hE;simp only at f1 f4;have hln:=f2.len;have hE1:E.length < E1.length:=(List.getElem?_eq_some_iff.1 f1).1;have hD1:E1[dk]? =some (du,some (a1.map Enc.enc)):=(f4 dk (by omega)).trans hDd;have w9:∀x y c',zO 1 24 (.sl E.length u' 0 rs.length 1) 1 [V.sl E1.length c1 0 (Int.toNat x14) 1] ⟨E1++[x]++[y],c'⟩=_:=fun x y c'=> zz (E:=E1++[x]++[y]) (vs:=vs') (by rw[List.getElem?_append_left (by simp; omega),List.getElem?_append_left hE1]; exact f1) hln (by simpa using q1) (by simpa using q2);simp only[simprocAttr, -Int.reduceNatCast',R0,b74_2,hl_1,h1_1,h4_1,h5_1,h6_1,h7_1,h21_1,h22_1,eq_true hlt2,hw2,wx13,w15a,eq_true w15c,w15d,hD1,w17a,w17b,w17c,w17e,qR,w9];have r0:Deep.rep ⟨E1++[(c1,some (l16.map Enc.enc))],c1+1⟩ (V.sl E1.length c1 0 (Int.toNat x14) 1) l16 (fun k=> k=E1.length):=by
    rw[←w17d]; exact xl (qR _ _) fun k=> yP
   have r1:=deep_round (h:=⟨E1,c1⟩) (h1:=⟨E1++[(c1,some (l16.map Enc.enc))],c1+1⟩) (h2:=⟨(E1++[(c1,some (l16.map Enc.enc))]++[(c1+1,some [V.sl E1.length c1 0 (Int.toNat x14) 1])]).set E.length (c1+1+1,some (vs'++[V.sl E1.length c1 0 (Int.toNat x14) 1])),c1+1+1+1⟩) f2
    r0 (fun k q=> by show E1.length≤k; omega) (fun k q=> List.getElem?_append_left q) (fun k p q=> zg (fun e=> by subst e; exact q.elim (fun q=> by have:=f3 _ q; omega) (fun q=> by omega)) p) (by simp)
   refine ai rfl ⟨_,_,_,qI (by simp; omega),r1,fun k q=> q.elim (f3 k) (fun q=> by omega),fun k q=>?_,?_⟩
   ·refine(zg (by omega) (by simp; omega)).trans ((List.getElem?_append_left (by omega)).trans (f4 k q))
   ·simp only[simprocAttr, -Int.reduceNatCast',R0,hl_1,h1_1,h4_1,h5_1,h6_1,h7_1,h21_1,h22_1,hw2,wJ]
  ·clear hl_1 h1_1 h4_1 h5_1 h6_1
   rintro j rs e ⟨E1,c1⟩ ⟨u',vs',K',f1,f2,f3,f4,hl_1,h1_1,h4_1,h5_1,h6_1,h7_1,h21_1,h22_1⟩ hge t1 ho;have hE:=wA ho; subst hE;simp only[simprocAttr, -Int.reduceNatCast',R0,b74_2,hl_1,h1_1,h4_1,h5_1,h6_1,h7_1,h21_1,h22_1,eq_false hge];intro ht; subst ht;exact⟨u',vs',K',f1,f2,f3,f4,rfl⟩
 ·rintro i ⟨l,q⟩ e ⟨E,c⟩ ⟨rfl,u,vs,K,g1,g2,g3,g4,g5,g6,hl_1,h1_1,h4_1,h5_1,h6_1⟩ hge t1 ho
  unfold F74_1_D at ho;have hE:=wA ho; subst hE;simp only at hF g1 g2 g3 g4 g6;have hDd:E[dk]? =some (du,some (a1.map Enc.enc)):=(g6 dk hdk).trans hd0;have wfz:frz ⟨E,c⟩ 16 (V.sl dk du 0 a1.length 1)=_:=frz_row hDd;simp only[simprocAttr, -Int.reduceNatCast',R0,b74_1,hl_1,h1_1,h4_1,h5_1,h6_1,eq_false hge,ws,wfz,g1,g2,g3];intro ht; subst ht;have hE:=wA hF; subst hE;have hE0:E0.length+2 < E.length:=(List.getElem?_eq_some_iff.1 g3).1;refine ai (fun _=> trivial) ⟨_,by simp only[simprocAttr, -Int.reduceNatCast',R0,qe,p74,Rs.ev,hl_1,h4_1,qI (show E0.length < E.length by omega)]; rfl,rfl,rfl,_,_,rfl,rep_at (α:=List (List Int)) (K:=K) ?_ (g4.frame fun k q=> qS (by have:=g5 k q; omega)) (fun q=> by have:=g5 _ q; omega),fun k q=> q.elim (fun q=> by omega) (fun q=> by have:=g5 k q; omega),fun k q=>(qS (by omega)).trans (g6 k q),by simp; omega⟩;exact(qS (by omega)).trans g2
def F75(p:Int)(n r pl v:Int)(s:List (List (List Int))):Option (List (List (List Int))):=
 (chk (n - 1)).bind fun i=>(getI s i).bind fun t=>(getI t r).bind fun row=>(getI row pl).bind fun old=>(chk (old+v)).bind fun a=>(remI a p).bind fun b=>(chk (b+p)).bind fun d=>(remI d p).bind fun z=>
 (setI row pl z).bind fun row'=>(setI t r row').bind fun t'=> setI s i t'
theorem d75{p n r pl v:Int}{dv:V}{s s':List (List (List Int))}(hF:F75 p n r pl v s=some s')(E:List (Nat×Option (List V)))(c:Nat){m:V}{K:Ks}(hr:Deep.rep ⟨E,c⟩ m s K):
  ∃h',res A 75 [V.agg [V.int .i64 p,dv,m],V.int .i64 n,V.int .i64 r,V.int .i64 pl,V.int .i64 v] ⟨E,c⟩=some (V.undef,h')∧Deep.rep h' m s' K∧(∀k,k < E.length→¬K k→h'.ents[k]? =E[k]?)∧E.length≤h'.ents.length:=by
 refine res_ex (f:=p75) rfl rfl rfl fun e hl he=>?_;have h0:e.at 0=V.agg [V.int .i64 p,dv,m]:=he 0 _ rfl;have h1:e.at 1=V.int .i64 n:=he 1 _ rfl;have h2:e.at 2=V.int .i64 r:=he 2 _ rfl;have h3:e.at 3=V.int .i64 pl:=he 3 _ rfl;have h4:e.at 4=V.int .i64 v:=he 4 _ rfl;have hl_0:e.length=38:=hl;clear he hl;show W A b75 e ⟨E,c⟩ _;unfold F75 at hF;obtain⟨i,gi,hF⟩:=bS hF;have wi:=qx gi;obtain⟨t,gt,hF⟩:=bS hF;obtain⟨ta,tb⟩:=ql gt;have tc:=qV gt;obtain⟨row,gr,hF⟩:=bS hF;obtain⟨ra,rb⟩:=ql gr;have rc:=qV gr;obtain⟨old,go,hF⟩:=bS hF;obtain⟨oa,ob⟩:=ql go;have oc:=qV go;obtain⟨a,ga,hF⟩:=bS hF;have wa:=qx ga;obtain⟨b,gb,hF⟩:=bS hF;obtain⟨wb0,wb⟩:=rem_w gb;obtain⟨d,gd,hF⟩:=bS hF;have wd:=qx gd;obtain⟨z,gz,hF⟩:=bS hF;obtain⟨_,wz⟩:=rem_w gz;obtain⟨row',gs,hF⟩:=bS hF;obtain⟨s1,s2,s3,s4,s5⟩:=xr gs;obtain⟨t',gt',hF⟩:=bS hF;have st:t'=t.set r.toNat row':=setI_eq gt';have sm:s'=s.set i.toNat t':=setI_eq hF;obtain⟨key,uid,vs,x1,K1,hm,a1,a2,a3,a4,a5,a6⟩:=rep_focus hr tb;obtain⟨key2,uid2,vs2,x2,K2,hx1,b1,b2,b3,b4,b5,b6⟩:=rep_focus a4 rb;rcases row_int b4 with⟨_,rfl,_⟩|⟨key3,uid3,hx2,d1,d2⟩
 ·exact absurd ob (by simp)
 have o1:=qE a2;have o2:=qE b2;have o3:qf none (List.drop pl.toNat (row.map Enc.enc))=some (V.int .i64 old):=qE (by rw[List.getElem?_map,ob]; rfl);have s5':List.take pl.toNat (row.map Enc.enc)++[V.int .i64 z]++List.drop (pl.toNat+1) (row.map Enc.enc)=List.map Enc.enc row':=s5;simp only at a1 b1 d1;have k1:key < E.length:=(List.getElem?_eq_some_iff.1 a1).1;have k2:key2 < E.length:=(List.getElem?_eq_some_iff.1 b1).1;have k3:key3 < E.length:=(List.getElem?_eq_some_iff.1 d1).1;have p1:∀x,(E++[x])[key]? =some (uid,some vs):=fun x=>(List.getElem?_append_left k1).trans a1;have p2:∀x,(E++[x])[key2]? =some (uid2,some vs2):=fun x=>(List.getElem?_append_left k2).trans b1;have p3:∀x,(E++[x])[key3]? =some (uid3,some (row.map Enc.enc)):=fun x=>(List.getElem?_append_left k3).trans d1;simp only[simprocAttr,R0,b75,hl_0,h0,h1,h2,h3,h4,qR,hm,wi,ta,eq_true tc,p1,o1,hx1,ra,eq_true rc,p2,o2,hx2,oa,eq_true oc,p3,o3,wa,wb0,wb,wd,wz,s3,s5'];rw[←hm];have q:∀k,k≠key3→k < E.length→((E++[(c,some [V.int .i64 p,dv,m])]).set key3 (uid3,some (List.map Enc.enc row')))[k]? =E[k]?:=fun k h1 h2=> zg h1 h2;have r0:Deep.rep ⟨(E++[(c,some [V.int .i64 p,dv,m])]).set key3 (uid3,some (List.map Enc.enc row')),c+1⟩ x2 row' K2:=by
  rw[hx2,←s4]; exact xl (qI (by simp; omega)) d2
 have r1:=b6 _ _ r0 (fun k hk nk=> q k (fun e=> nk ((d2 k).2 e)) (Deep.bd a4 hk));rw[←st]at r1;have r2:=a6 _ _ r1 (fun k hk nk=> q k (fun e=> nk (b5 k ((d2 k).2 e))) (Deep.bd hr hk));rw[←sm]at r2;refine ai (fun _=> trivial) ⟨?_,r2,fun k hk nk=> q k (fun e=> nk (a5 k (b5 k ((d2 k).2 e)))) hk,by simp⟩;simp only[simprocAttr,R1,qe,p75,mapO];rfl
def F36_2_B(a0:GDga)(ms:List Int)(i:Int)(l:List Int):Option (List Int⊕List Int):=(getI ms i).bind fun k=>(ixI 8 k).bind fun x=>(app 8 l [a0.Levels.val.getD x 0]).bind fun l2=> some (.inl l2)
def F36_1_B(a0:GDga)(n:Int)(s:List (List Int)×List Int):Option ((List (List Int)×List Int)⊕(List (List Int)×List Int)):=(F72 a0 n).bind fun ms=>(forR 0 (ms.length:Int) (F36_2_B a0 ms) (fun _ l=> some l) []).bind fun lv=>(app 24 s.1 [lv]).bind fun l2=>(app 8 s.2 [(lv.length:Int)]).bind fun d2=> some (.inl (l2,d2))
def F36_5_B(a0:GDga)(p n r k:Int)(ms:List Int)(j:Int)(s:List (List (List Int))):Option (List (List (List Int))⊕List (List (List Int))):=(getI ms j).bind fun k2=>(ixI 8 k).bind fun x=>(ixI 8 k2).bind fun y=>(chk (a0.Diff.val.getD (x*8+y) 0)).bind fun v=>(F75 p n r j v s).bind fun s2=> some (.inl s2)
def F36_4_B(a0:GDga)(p n:Int)(ms:List Int)(j:Int)(s:List (List (List Int))):Option (List (List (List Int))⊕List (List (List Int))):=(getI ms j).bind fun k=>(chk (n - 1)).bind fun m=>(F72 a0 m).bind fun ns=>(forR 0 (ns.length:Int) (F36_5_B a0 p n j k ns) (fun _ s=> some s) s).bind fun s2=> some (.inl s2)
def F36_3_B(a0:GDga)(p:Int)(n:Int)(s:List (List (List Int))):Option (List (List (List Int))⊕List (List (List Int))):=(F72 a0 n).bind fun ms=>(forR 0 (ms.length:Int) (F36_4_B a0 p n ms) (fun _ s=> some s) s).bind fun s2=> some (.inl s2)
def F36(a0:GDga):Option qc:=(chk (a0.Size - 1)).bind fun x=>(ixI 8 x).bind fun y=>(chk (a0.Degrees.val.getD y 0+1)).bind fun top=>(forR 0 top (F36_1_B a0) (fun _ s=> some s) ([],[])).bind fun s=>(F74 a0.Prime s.2).bind fun c=>(forR 1 (s.2.length:Int) (F36_3_B a0 c.Prime) (fun _ m=> some m) c.Maps).bind fun m=> some ⟨⟨c.Prime,c.Dims,m⟩,s.1⟩
set_option maxHeartbeats 8000000 in
theorem s36(a0:GDga){r:qc}(hF:F36 a0=some r):ans A 36 [V.agg (qb a0)]=some (Enc.enc r):=by
 refine qu (f:=p36) rfl rfl rfl fun e hl he=>?_;have h0_0:e.at 0=V.agg (qb a0):=he 0 _ rfl;have hl_0:e.length=101:=hl;clear he hl;show W A b36 e ⟨[],0⟩ _;unfold F36 at hF;obtain⟨x,gx,hF⟩:=bS hF;have wx:=qx gx;obtain⟨y,gy,hF⟩:=bS hF;obtain⟨ya,yb,yc,yd⟩:=qU gy;obtain⟨top,gtop,hF⟩:=bS hF;have wtop:=qx gtop;have wS:qf none (List.drop 1 (qb a0))=some (V.int .i64 a0.Size):=qk rfl;have wP:qf none (qb a0)=some (V.int .i64 a0.Prime):=qA (a:=_) rfl;have wD:qf none (List.drop y (List.drop 2 (qb a0)))=some (V.int .i64 (a0.Degrees.val.getD y 0)):=by simp only[wH]; exact qm (i:=y) (by omega) (by omega)
 obtain⟨⟨lv,dims⟩,g1,hF⟩:=bS hF;dsimp only at hF;simp only[simprocAttr, -Int.reduceNatCast',R0,b36,hl_0,h0_0,wS,wx,ya,yb,yc,wD,wtop];show W A (.block 0 (.loop true b36_1)) _ _ _;rw[qi];refine qr g1 _ rfl (fun i s e h=>∃u ud vs K,h.ents[1]? =some (1,some [V.int .i64 0,.nils,.nils,.nils])∧h.ents[4]? =some (u,some vs)∧h.ents[5]? =some (ud,some (List.map Enc.enc s.2))∧h.ents[6]? =some (6,some [V.int .i64 0,V.sl 2 2 0 0 1,V.sl 3 3 0 0 1,V.sl 4 u 0 s.1.length 1])∧reps h vs s.1 K∧(∀k,K k→7≤k)∧e.length=101∧e.at 1=V.iptr (qb a0)∧e.at 2=V.ptr 1 1 0∧e.at 3=V.ptr 6 6 0∧e.at 4=V.sl 5 ud 0 s.2.length 1∧e.at 22=V.int .i64 top∧e.at 23=V.int .i64 i) ?_ ?_ ?_
 ·refine⟨4,5,[],fun _=> False,rfl,rfl,rfl,rfl,fun _ x=> x,fun _ x=> x.elim,?_⟩
  simp only[simprocAttr, -Int.reduceNatCast',R0,hl_0,h0_0]
 ·clear hl_0 h0_0
  rintro i ⟨l,q⟩ e ⟨E,c⟩ ⟨u,ud,vs,K,k1,k4,k5,k6,k7,k8,hl_1,h1_1,h2_1,h3_1,h4_1,h22_1,h23_1⟩ hlt hw o ho;unfold F36_1_B at ho;simp only at ho k1 k4 k5 k6 k7 h4_1;obtain⟨ms,gms,ho⟩:=bS ho;have wM:ans A 72 [V.agg (qb a0),V.int .i64 i]=some (V.isl (ms.map Enc.enc)):=s72 a0 i gms;obtain⟨lw,glv,ho⟩:=bS ho;obtain⟨l2,gl2,ho⟩:=bS ho;obtain⟨q1,q2,rfl⟩:=app_w gl2;obtain⟨d2,gd2,ho⟩:=bS ho;obtain⟨p1,p2,rfl⟩:=app_w gd2;have hE:=wA ho; subst hE;have e6:6 < E.length:=(List.getElem?_eq_some_iff.1 k6).1;simp only[simprocAttr, -Int.reduceNatCast',R0,b36_1,hl_1,h1_1,h2_1,h3_1,h4_1,h22_1,h23_1,eq_true hlt,hw,wM];refine W.mono (Q:=fun x' e h=> x'= .normal∧∃u',h.ents[E.length]? =some (u',some (lw.map Enc.enc))∧(∀k,k < E.length→h.ents[k]? =E[k]?)∧e.length=101∧e.at 1=V.iptr (qb a0)∧e.at 2=V.ptr 1 1 0∧e.at 3=V.ptr 6 6 0∧e.at 4=V.sl 5 ud 0 q.length 1∧e.at 6=V.sl E.length u' 0 lw.length 1∧e.at 22=V.int .i64 top∧e.at 23=V.int .i64 i) ?_ ?_
  rotate_left
  ·rintro _ e ⟨E1,c1⟩ ⟨rfl,u',f1,f4,hl_2,h1_2,h2_2,h3_2,h4_2,h6_2,h22_2,h23_2⟩
   simp only at f1 f4;have hln:=k7.len;have hE1:E.length < E1.length:=(List.getElem?_eq_some_iff.1 f1).1;have m1:=(f4 1 (by omega)).trans k1;have m4:=(f4 4 (by omega)).trans k4;have m5:=(f4 5 (by omega)).trans k5;have m6:=(f4 6 (by omega)).trans k6;have w9:∀y c',zO 1 24 (.sl 4 u 0 l.length 1) 1 [V.sl E.length u' 0 lw.length 1] ⟨E1++[y],c'⟩=_:=fun y c'=> zz (E:=E1++[y]) (vs:=vs) (by rw[List.getElem?_append_left (by omega)]; exact m4) hln (by simpa using q1) (by simpa using q2);have wf:∀y z c',frz ⟨(E1++[y]).set 4 z,c'⟩ 16 (V.sl E.length u' 0 lw.length 1)=_:=fun y z c'=> frz_row (l:=lw) (by rw[zg (by omega) (by omega)]; exact f1);have ws:ans A 73 [V.isl (lw.map Enc.enc)]=some (V.int .i64 (lw.length:Int)):=s73 lw rfl;have w10:∀y z x c',zO 1 8 (.sl 5 ud 0 q.length 1) 1 [V.int .i64 (lw.length:Int)] ⟨(E1++[y]).set 4 z++[x],c'⟩=_:=fun y z x c'=> zz (E:=(E1++[y]).set 4 z++[x]) (vs:=List.map Enc.enc q) (by rw[List.getElem?_append_left (by simp; omega),zg (by omega) (by omega)]; exact m5) (by simp) (by simpa using p1) (by simpa using p2);have n6:∀y z x,((E1++[y]).set 4 z++[x])[6]? =_:=fun y z x=>((List.getElem?_append_left (by simp; omega)).trans (zg (by omega) (by omega))).trans m6;have n6':∀y z x z',(((E1++[y]).set 4 z++[x]).set 5 z')[6]? =_:=fun y z x z'=>(qS (by omega)).trans (n6 y z x);have gl2:∀ (y z x),((E1++[y]).set 4 z++[x])[(E1++[y]).length]? =some x:=fun y z x=> by
    rw[List.getElem?_append_right (by simp)]; simp
   have gl3:∀ (y z x),((E1++[y]).set 4 z++[x])[E1.length+1]? =some x:=fun y z x=> by
    rw[List.getElem?_append_right (by simp)]; simp
   simp only[simprocAttr, -Int.reduceNatCast',R0,hl_2,h1_2,h2_2,h3_2,h4_2,h6_2,h22_2,h23_2,hw,m6,qR,w9,wf,ws,w10,n6,n6',gl2,gl3,yN,le1];have hk:∀k,K k∨k=E.length→7≤k:=fun k w=> w.elim (k8 k) (fun w=> by omega);have old:∀ (z4 z5 z6:Nat×Option (List V)) (y x:Nat×Option (List V)) (k:Nat),k≠4→k≠5→k≠6→k < E1.length→((((E1++[y]).set 4 z4++[x]).set 5 z5).set 6 z6)[k]? =E1[k]?:=fun z4 z5 z6 y x k a1 a2 a3 a4=>
    (qS a3).trans ((qS a2).trans ((List.getElem?_append_left (by simp; omega)).trans (zg a1 a4)))
   refine ai rfl ⟨c1+1,c1+1+1+1,vs++[V.sl E.length u' 0 lw.length 1],(fun k=> K k∨k=E.length),?_,?_,?_,?_,?_,hk,?_⟩
   ·exact(old _ _ _ _ _ 1 (by omega) (by omega) (by omega) (by omega)).trans m1
   ·exact(qS (by omega)).trans ((qS (by omega)).trans ((List.getElem?_append_left (by simp; omega)).trans (qI (by simp; omega))))
   ·refine(qS (by omega)).trans ((qI (by simp; omega)).trans ?_)
    simp only[vT,vA,uN]; rfl
   ·refine(qI (by simp; omega)).trans ?_
    simp only[wJ,wX,wU,vH]
   ·exact deep_round (h:=⟨E,c⟩) (h1:=⟨E1,c1⟩) (K1:=fun k=> k=E.length) k7 (xl f1 fun k=> yP) (fun k w=> by show E.length≤k; omega) f4 (fun k p w=> by have:=hk k w; exact old _ _ _ _ _ k (by omega) (by omega) (by omega) p) (by show E.length≤E1.length; omega)
   ·simp only[simprocAttr, -Int.reduceNatCast',R0,hl_2,h1_2,h2_2,h3_2,h4_2,h6_2,h22_2,h23_2,hw,wJ]
  show W A (.block 2 (.loop true b36_2)) _ _ _;rw[qi];refine qr glv _ rfl (fun j l e h=>∃u',h.ents[E.length]? =some (u',some (l.map Enc.enc))∧(∀k,k < E.length→h.ents[k]? =E[k]?)∧e.length=101∧e.at 1=V.iptr (qb a0)∧e.at 2=V.ptr 1 1 0∧e.at 3=V.ptr 6 6 0∧e.at 4=V.sl 5 ud 0 q.length 1∧e.at 6=V.sl E.length u' 0 l.length 1∧e.at 22=V.int .i64 top∧e.at 23=V.int .i64 i∧e.at 29=V.isl (ms.map Enc.enc)∧e.at 30=V.int .i64 (ms.length:Int)∧e.at 31=V.int .i64 j) ?_ ?_ ?_
  ·refine⟨c,qR _ _,fun k w=> List.getElem?_append_left w,?_⟩
   simp only[simprocAttr, -Int.reduceNatCast',R0,hl_1,h1_1,h2_1,h3_1,h4_1,h22_1,h23_1]
  ·clear hl_1 h1_1 h2_1 h3_1 h4_1 h22_1 h23_1
   rintro j l e ⟨E1,c1⟩ ⟨u',f1,f4,hl_1,h1_1,h2_1,h3_1,h4_1,h6_1,h22_1,h23_1,h29_1,h30_1,h31_1⟩ hlt2 hw2 o ho;unfold F36_2_B at ho;simp only at f1 f4;obtain⟨k,gk,ho⟩:=bS ho;obtain⟨wka,wkb⟩:=ql gk;obtain⟨x,gx,ho⟩:=bS ho;obtain⟨xa,xb,xc,xd⟩:=qU gx;have wL:qf none (List.drop x (List.drop 10 (qb a0)))=some (V.int .i64 (a0.Levels.val.getD x 0)):=by simp only[wH]; exact qv (i:=x) (by omega) (by omega)
   obtain⟨l3,gl3,ho⟩:=bS ho;obtain⟨q1,q2,rfl⟩:=app_w gl3;have hE:=wA ho; subst hE;have hE1:E.length < E1.length:=(List.getElem?_eq_some_iff.1 f1).1;have w9:∀y c',zO 1 8 (.sl E.length u' 0 l.length 1) 1 [V.int .i64 (a0.Levels.val.getD x 0)] ⟨E1++[y],c'⟩=_:=fun y c'=> zz (E:=E1++[y]) (vs:=List.map Enc.enc l) (by rw[List.getElem?_append_left hE1]; exact f1) (by simp) (by simpa using q1) (by simpa using q2);simp only[simprocAttr, -Int.reduceNatCast',R0,b36_2,hl_1,h1_1,h2_1,h3_1,h4_1,h6_1,h22_1,h23_1,h29_1,h30_1,h31_1,eq_true hlt2,hw2,wka,wkb,xa,xb,xc,wL,qR,w9];refine ai rfl ⟨c1+1,(qI (by simp; omega)).trans ?_,fun k w=>(zg (by omega) (by omega)).trans (f4 k w),?_⟩
   ·simp only[vT,vA,uN]; rfl
   ·simp only[simprocAttr, -Int.reduceNatCast',R0,hl_1,h1_1,h2_1,h3_1,h4_1,h6_1,h22_1,h23_1,h29_1,h30_1,h31_1,hw2,wJ]
  ·clear hl_1 h1_1 h2_1 h3_1 h4_1 h22_1 h23_1
   rintro j l e ⟨E1,c1⟩ ⟨u',f1,f4,hl_1,h1_1,h2_1,h3_1,h4_1,h6_1,h22_1,h23_1,h29_1,h30_1,h31_1⟩ hge t1 ho;have hE:=wA ho; subst hE;simp only[simprocAttr, -Int.reduceNatCast',R0,b36_2,hl_1,h1_1,h2_1,h3_1,h4_1,h6_1,h22_1,h23_1,h29_1,h30_1,h31_1,eq_false hge];intro ht; subst ht;exact⟨u',f1,f4,rfl⟩
 ·clear hl_0 h0_0
  rintro i ⟨l,q⟩ e ⟨E,c⟩ ⟨u,ud,vs,K,k1,k4,k5,k6,k7,k8,hl_1,h1_1,h2_1,h3_1,h4_1,h22_1,h23_1⟩ hge t1 ho;have hE:=wA ho; subst hE;simp only at k1 k4 k5 k6 k7 h4_1;simp only[simprocAttr, -Int.reduceNatCast',R0,b36_1,hl_1,h1_1,h2_1,h3_1,h4_1,h22_1,h23_1,eq_false hge];intro ht;obtain⟨rfl,rfl⟩:=uR ht;obtain⟨cx,gcx,hF⟩:=bS hF;obtain⟨m',gm,hF⟩:=bS hF;have hE:=wA hF; subst hE;obtain⟨bv,⟨E0,c0⟩,w1,w2,w3,m,K1,rfl,w4,w5,w6,w7⟩:=d74 a0.Prime q gcx E c (dk:=5) (du:=ud) k5;simp only at w6 w7;have e6:6 < E.length:=(List.getElem?_eq_some_iff.1 k6).1;have n6:=(w6 6 e6).trans k6;simp only[simprocAttr, -Int.reduceNatCast',R0,hl_1,h1_1,h2_1,h3_1,h4_1,h22_1,h23_1,wP,zj,w1,n6];show W A (.block 4 (.loop true b36_3)) _ _ _;rw[qi];refine qr gm _ rfl (fun i s e h=>∃K1,h.ents[6]? =some (6,some [V.int .i64 cx.Prime,V.sl 5 ud 0 q.length 1,m,V.sl 4 u 0 l.length 1])∧(∀k,k < E.length→k≠6→h.ents[k]? =E[k]?)∧Deep.rep h m s K1∧(∀k,K1 k→E.length≤k)∧E.length≤h.ents.length∧e.length=101∧e.at 1=V.iptr (qb a0)∧e.at 2=V.ptr 1 1 0∧e.at 3=V.ptr 6 6 0∧e.at 4=V.sl 5 ud 0 q.length 1∧e.at 9=V.int .i64 i) ?_ ?_ ?_
  ·refine⟨K1,qI (by omega),fun k a b=>(qS b).trans (w6 k a),Deep.frame w4 fun k a=> qS (by have:=w5 k a; omega),w5,by simpa using w7,?_⟩
   simp only[simprocAttr, -Int.reduceNatCast',R0,hl_1,h1_1,h2_1,h3_1,h4_1]
  ·clear hl_1 h1_1 h2_1 h3_1 h4_1 h22_1 h23_1
   rintro i s e ⟨E1,c1⟩ ⟨K2,f6,fo,fr,fk,fl0,hl_1,h1_1,h2_1,h3_1,h4_1,h9_1⟩ hlt hw o ho;unfold F36_3_B at ho;simp only at f6 fo;obtain⟨ms,gms,ho⟩:=bS ho;have wM:ans A 72 [V.agg (qb a0),V.int .i64 i]=some (V.isl (ms.map Enc.enc)):=s72 a0 i gms;obtain⟨s2,gs2,ho⟩:=bS ho;have hE:=wA ho; subst hE;have wfz:frz ⟨E1,c1⟩ 16 (V.sl 5 ud 0 q.length 1)=_:=frz_row (l:=q) ((fo 5 (by omega) (by omega)).trans k5);have ws:ans A 73 [V.isl (q.map Enc.enc)]=some (V.int .i64 (q.length:Int)):=s73 q rfl;simp only[simprocAttr, -Int.reduceNatCast',R0,b36_3,hl_1,h1_1,h2_1,h3_1,h4_1,h9_1,wfz,ws,eq_true hlt,wM,hw];show W A (.block 6 (.loop true b36_4)) _ _ _;rw[qi];refine qr gs2 _ rfl (fun j s e h=>∃K1,h.ents[6]? =some (6,some [V.int .i64 cx.Prime,V.sl 5 ud 0 q.length 1,m,V.sl 4 u 0 l.length 1])∧(∀k,k < E.length→k≠6→h.ents[k]? =E[k]?)∧Deep.rep h m s K1∧(∀k,K1 k→E.length≤k)∧E.length≤h.ents.length∧e.length=101∧e.at 1=V.iptr (qb a0)∧e.at 2=V.ptr 1 1 0∧e.at 3=V.ptr 6 6 0∧e.at 4=V.sl 5 ud 0 q.length 1∧e.at 9=V.int .i64 i∧e.at 68=V.isl (ms.map Enc.enc)∧e.at 69=V.int .i64 (ms.length:Int)∧e.at 70=V.int .i64 j) ?_ ?_ ?_
   ·refine⟨K2,f6,fo,fr,fk,fl0,?_⟩
    simp only[simprocAttr, -Int.reduceNatCast',R0,hl_1,h1_1,h2_1,h3_1,h4_1,h9_1]
   ·clear hl_1 h1_1 h2_1 h3_1 h4_1 h9_1
    rintro j s e ⟨E2,c2⟩ ⟨K3,f6,fo,fr,fk,fl,hl_1,h1_1,h2_1,h3_1,h4_1,h9_1,h68_1,h69_1,h70_1⟩ hlt2 hw2 o ho;unfold F36_4_B at ho;simp only at f6 fo fl;obtain⟨k,gk,ho⟩:=bS ho;obtain⟨wka,wkb⟩:=ql gk;obtain⟨mm,gmm,ho⟩:=bS ho;have wmm:=qx gmm;obtain⟨ns,gns,ho⟩:=bS ho;have wN:ans A 72 [V.agg (qb a0),V.int .i64 mm]=some (V.isl (ns.map Enc.enc)):=s72 a0 mm gns;obtain⟨s3,gs3,ho⟩:=bS ho;have hE:=wA ho; subst hE;simp only[simprocAttr, -Int.reduceNatCast',R0,b36_4,hl_1,h1_1,h2_1,h3_1,h4_1,h9_1,h68_1,h69_1,h70_1,eq_true hlt2,wka,wkb,wmm,wN,hw2];show W A (.block 8 (.loop true b36_5)) _ _ _;rw[qi];refine qr gs3 _ rfl (fun jj s e h=>∃K1,h.ents[6]? =some (6,some [V.int .i64 cx.Prime,V.sl 5 ud 0 q.length 1,m,V.sl 4 u 0 l.length 1])∧(∀k,k < E.length→k≠6→h.ents[k]? =E[k]?)∧Deep.rep h m s K1∧(∀k,K1 k→E.length≤k)∧E.length≤h.ents.length∧e.length=101∧e.at 1=V.iptr (qb a0)∧e.at 2=V.ptr 1 1 0∧e.at 3=V.ptr 6 6 0∧e.at 4=V.sl 5 ud 0 q.length 1∧e.at 9=V.int .i64 i∧e.at 10=V.int .i64 j∧e.at 11=V.int .i64 k∧e.at 68=V.isl (ms.map Enc.enc)∧e.at 69=V.int .i64 (ms.length:Int)∧e.at 70=V.int .i64 j∧e.at 78=V.isl (ns.map Enc.enc)∧e.at 79=V.int .i64 (ns.length:Int)∧e.at 80=V.int .i64 jj) ?_ ?_ ?_
    ·refine⟨K3,f6,fo,fr,fk,fl,?_⟩
     simp only[simprocAttr, -Int.reduceNatCast',R0,hl_1,h1_1,h2_1,h3_1,h4_1,h9_1,h68_1,h69_1,h70_1]
    ·clear hl_1 h1_1 h2_1 h3_1 h4_1 h9_1 h68_1 h69_1 h70_1
     rintro jj s e ⟨E3,c3⟩ ⟨K4,f6,fo,fr,fk,fl2,hl_1,h1_1,h2_1,h3_1,h4_1,h9_1,h10_1,h11_1,h68_1,h69_1,h70_1,h78_1,h79_1,h80_1⟩ hlt3 hw3 o ho;unfold F36_5_B at ho;simp only at f6 fo fl2;obtain⟨k2,gk2,ho⟩:=bS ho;obtain⟨va,vb⟩:=ql gk2;obtain⟨x1,gx1,ho⟩:=bS ho;obtain⟨xa,xb,xc,xd⟩:=qU gx1;obtain⟨x2,gx2,ho⟩:=bS ho;obtain⟨za,zb,zc,zd⟩:=qU gx2;have wL:qf none (List.drop x2 (List.drop (x1*8) (List.drop 18 (qb a0))))=some (V.int .u8 (a0.Diff.val.getD (x1*8+x2) 0)):=by simp only[wH]; exact ceGDga_Diff_one (i:=x1*8+x2) (by omega) (by omega)
     obtain⟨v,gv,ho⟩:=bS ho;have wv:=qx gv;obtain⟨s4,gs4,ho⟩:=bS ho;have hE:=wA ho; subst hE;obtain⟨⟨E4,c4⟩,t1,t2,t3,t4⟩:=d75 (dv:=V.sl 5 ud 0 q.length 1) gs4 E3 c3 fr;simp only at t3 t4;have e3:6 < E3.length:=(List.getElem?_eq_some_iff.1 f6).1;simp only[simprocAttr, -Int.reduceNatCast',R0,b36_5,hl_1,h1_1,h2_1,h3_1,h4_1,h9_1,h10_1,h11_1,h68_1,h69_1,h70_1,h78_1,h79_1,h80_1,eq_true hlt3,va,vb,xa,xb,xc,za,zb,zc,wL,wv,f6,hw3,zj,t1];refine ai rfl ⟨K4,?_,fun k' a b=>?_,t2,fk,yI fl2 t4,?_⟩
     ·exact(t3 6 e3 (fun a=> by have:=fk _ a; omega)).trans f6
     ·exact(t3 k' (by omega) (fun a=> by have:=fk _ a; omega)).trans (fo k' a b)
     ·simp only[simprocAttr, -Int.reduceNatCast',R0,hl_1,h1_1,h2_1,h3_1,h4_1,h9_1,h10_1,h11_1,h68_1,h69_1,h70_1,h78_1,h79_1,h80_1,hw3]
    ·clear hl_1 h1_1 h2_1 h3_1 h4_1 h9_1 h68_1 h69_1 h70_1
     rintro jj s e ⟨E3,c3⟩ ⟨K4,f6,fo,fr,fk,fl2,hl_1,h1_1,h2_1,h3_1,h4_1,h9_1,h10_1,h11_1,h68_1,h69_1,h70_1,h78_1,h79_1,h80_1⟩ hge t1 ho;have hE:=wA ho; subst hE;simp only[simprocAttr, -Int.reduceNatCast',R0,b36_5,hl_1,h1_1,h2_1,h3_1,h4_1,h9_1,h10_1,h11_1,h68_1,h69_1,h70_1,h78_1,h79_1,h80_1,eq_false hge,hw2];intro ht; subst ht;refine ai rfl ⟨K4,f6,fo,fr,fk,fl2,?_⟩;simp only[simprocAttr, -Int.reduceNatCast',R0,hl_1,h1_1,h2_1,h3_1,h4_1,h9_1,h68_1,h69_1,h70_1,hw2]
   ·clear hl_1 h1_1 h2_1 h3_1 h4_1 h9_1
    rintro j s e ⟨E2,c2⟩ ⟨K3,f6,fo,fr,fk,fl,hl_1,h1_1,h2_1,h3_1,h4_1,h9_1,h68_1,h69_1,h70_1⟩ hge t1 ho;have hE:=wA ho; subst hE;simp only[simprocAttr, -Int.reduceNatCast',R0,b36_4,hl_1,h1_1,h2_1,h3_1,h4_1,h9_1,h68_1,h69_1,h70_1,eq_false hge,hw];intro ht; subst ht;refine ai rfl ⟨K3,f6,fo,fr,fk,fl,?_⟩;simp only[simprocAttr, -Int.reduceNatCast',R0,hl_1,h1_1,h2_1,h3_1,h4_1,h9_1,hw]
  ·clear hl_1 h1_1 h2_1 h3_1 h4_1 h22_1 h23_1
   rintro i s e ⟨E1,c1⟩ ⟨K2,f6,fo,fr,fk,fl0,hl_1,h1_1,h2_1,h3_1,h4_1,h9_1⟩ hge t1 ho;have hE:=wA ho; subst hE;simp only at f6 fo;have m1:=(fo 1 (by omega) (by omega)).trans k1;have m4:=(fo 4 (by omega) (by omega)).trans k4;have m5:=(fo 5 (by omega) (by omega)).trans k5;have wfz:frz ⟨E1,c1⟩ 16 (V.sl 5 ud 0 q.length 1)=_:=frz_row (l:=q) m5;have ws:ans A 73 [V.isl (q.map Enc.enc)]=some (V.int .i64 (q.length:Int)):=s73 q rfl;simp only[simprocAttr, -Int.reduceNatCast',R0,b36_3,hl_1,h1_1,h2_1,h3_1,h4_1,h9_1,wfz,ws,eq_false hge,f6,m1];intro ht; subst ht;have e1:1 < E1.length:=(List.getElem?_eq_some_iff.1 m1).1;have z5:∀z,frz ⟨E1.set 1 z,c1⟩ 15 (V.sl 5 ud 0 q.length 1)=_:=fun z=> Deep.fz (α:=List Int) (K:=fun k=> k=5) (xl ((qS (by omega)).trans m5) fun k=> yP) 10;have zm:∀z,frz ⟨E1.set 1 z,c1⟩ 15 m=_:=fun z=> Deep.fz (α:=List (List (List Int))) (Deep.frame fr fun k a=> qS (by have:=fk k a; omega)) 8;have zl:∀z,frz ⟨E1.set 1 z,c1⟩ 15 (V.sl 4 u 0 l.length 1)=_:=fun z=> Deep.fz (α:=List (List Int)) (rep_at (K:=K) ((qS (by omega)).trans m4) (k7.frame fun k a=>(qS (by have:=k8 k a; omega)).trans (fo k (k7.bd a) (by have:=k8 k a; omega))) (fun a=> by have:=k8 _ a; omega)) 9;exact qd (by simp only[simprocAttr, -Int.reduceNatCast',R0,qe,p36,Rs.ev,hl_1,h2_1,qI e1,z5,zm,zl,w3])
def F56(a0:Int)(a1:Int)(a2:Int):Option Bool:=
 if a1≤a0 then
  some (decide (a0≤a2))
 else
  some false
theorem s56(a0:Int)(a1:Int)(a2:Int){r:Bool}(hF:F56 a0 a1 a2=some r):ans A 56 [V.int .i64 a0,V.int .i64 a1,V.int .i64 a2]=some (Enc.enc r):=by
 refine qu (f:=p56) rfl rfl rfl fun e hl he=>?_;have h0_0:e.at 0=V.int .i64 a0:=he 0 _ rfl;have h1_0:e.at 1=V.int .i64 a1:=he 1 _ rfl;have h2_0:e.at 2=V.int .i64 a2:=he 2 _ rfl;have hl_0:e.length=15:=hl;clear he hl;have h_0:=ai hl_0 (ai h0_0 (ai h1_0 h2_0));show W A b56 e ⟨[],0⟩ _;unfold F56 at hF;by_cases c1:a1≤a0
 ·rw[if_pos c1]at hF
  cases hF;simp only[simprocAttr,R0,b56, *];exact qd (by simp only[simprocAttr,R0,qe,p56,Rs.ev,qa, *])
 ·rw[if_neg c1]at hF
  cases hF;simp only[simprocAttr,R0,b56, *];exact qd (by simp only[simprocAttr,R0,qe,p56,Rs.ev,qa, *])
def F86(a0:qh):Option Int:=
 (chk ((a0.Dims.length:Int) - 1)).bind fun x3=>
 some x3
theorem s86(a0:qh){r:Int}(hF:F86 a0=some r):ans A 86 [(eC a0)]=some (Enc.enc r):=by
 refine qu (f:=p86) rfl rfl rfl fun e hl he=>?_;have h0_0:e.at 0=(eC a0):=he 0 _ rfl;have hl_0:e.length=7:=hl;clear he hl;show W A b86 e ⟨[],0⟩ _;unfold F86 at hF;have w2:=s73 a0.Dims rfl;obtain⟨x3,gx3,hF⟩:=bS hF;have wx3:=qx gx3;cases hF;simp only[simprocAttr,R0,b86, *];exact qd (by simp only[simprocAttr,R0,qe,p86,Rs.ev,qa, *])
def F89(a0:List (List Int)):Option Int:=
 some (a0.length:Int)
theorem s89(a0:List (List Int)){r:Int}(hF:F89 a0=some r):ans A 89 [V.isl (a0.map Enc.enc)]=some (Enc.enc r):=by
 refine qu (f:=p89) rfl rfl rfl fun e hl he=>?_;have h0_0:e.at 0=V.isl (a0.map Enc.enc):=he 0 _ rfl;have hl_0:e.length=5:=hl;clear he hl;show W A b89 e ⟨[],0⟩ _;unfold F89 at hF;cases hF;simp only[simprocAttr,R0,b89, *];exact qd (by simp only[simprocAttr,R0,qe,p89,Rs.ev,qa, *])
def F69(a0:GDga)(a1:Int):Option (Ar .u8 8):=
 (ixI 8 a1).bind fun n3=>
 (some (arW 8 [] n3 1)).bind fun l5=>
 some ⟨l5⟩
theorem s69(a0:GDga)(a1:Int){r:Ar .u8 8}(hF:F69 a0 a1=some r):ans A 69 [V.agg (qb a0),V.int .i64 a1]=some (Enc.enc r):=by
 refine qu (f:=p69) rfl rfl rfl fun e hl he=>?_;have h0_0:e.at 0=V.agg (qb a0):=he 0 _ rfl;have h1_0:e.at 1=V.int .i64 a1:=he 1 _ rfl;have hl_0:e.length=10:=hl;clear he hl;show W A b69 e ⟨[],0⟩ _;unfold F69 at hF;have w2:List.drop 8 (arc .u8 8 [])=[]:=wI (by rw[qj]; exact wG _);obtain⟨n3,gn3,hF⟩:=bS hF;obtain⟨w4a,w4b,w4c,w4d⟩:=qU gn3;obtain⟨l5,gl5,hF⟩:=bS hF;have w6:List.take n3 (arc .u8 8 [])++[V.int .u8 1]++List.drop (n3+1) (arc .u8 8 [])=arc .u8 8 l5:=by rw[←wA gl5]; exact arc_set (by omega)
 have w6l:n3+1≤8:=by omega
 have w9:List.drop 8 (arc .u8 8 [])=[]:=wI (by rw[qj]; exact wG _);cases hF;simp only[simprocAttr, -Int.reduceNatCast',R0,b69,wB,wB, *];exact qd (by simp only[simprocAttr, -Int.reduceNatCast',R0,qe,p69,Rs.ev,qa,wB,wB, *])
def F70_1_B(a0:GDga)(a2:Ar .u8 8)(x5:Int)(v22_1:Int)(o1_1:(List Int)):Option (((List Int))⊕((List Int))):=
 (ixI 8 v22_1).bind fun n11=>
(chk (o1_1.getD n11 0)).bind fun x15=>
(chk (a2.val.getD n11 0)).bind fun x16=>
(chk (x5*x16)).bind fun x17=>
(chk (x15+x17)).bind fun x18=>
(remI x18 a0.Prime).bind fun x20=>
(some (arW 8 o1_1 n11 (Go.IntKind.wrap .u8 x20))).bind fun l22=>
some (.inl l22)
def F70_1_D(a0:GDga)(a2:Ar .u8 8)(x5:Int)(v22_1:Int)(o1_1:(List Int)):Option ((List Int)):=
 some o1_1
def F70(a0:GDga)(a1:Ar .u8 8)(a2:Ar .u8 8)(a3:Int):Option (Ar .u8 8):=
 (remI a3 a0.Prime).bind fun x2=>
 (chk (x2+a0.Prime)).bind fun x4=>
 (remI x4 a0.Prime).bind fun x5=>
 (forR 0 8 (F70_1_B a0 a2 x5) (F70_1_D a0 a2 x5) a1.val).bind fun zo1_1=>
 some ⟨zo1_1⟩
def I70_1(a0:GDga)(a2:Ar .u8 8)(x5:Int)(v22_1:Int)(o1_1:(List Int))(e:Env)(h:Heap):Prop:=
 ∃k9:Nat,h=⟨[(0,none),(1,some (arc .u8 8 o1_1)),(0,none),(3,some (arc .u8 8 []))],k9⟩∧e.length=43∧e.at 3=V.int .i64 x5∧e.at 4=V.iptr (qb a0)∧e.at 5=V.ptr 1 1 0∧e.at 8=V.ptr 3 3 0∧e.at 21=V.agg (arc .u8 8 a2.val)∧e.at 22=V.int .i64 v22_1
def P70_1(a0:GDga)(a2:Ar .u8 8)(x5:Int)(zo1_1:(List Int))(x:Ex)(e:Env)(h:Heap):Prop:=
 x= .normal∧∃k9:Nat,h=⟨[(0,none),(1,some (arc .u8 8 zo1_1)),(0,none),(3,some (arc .u8 8 []))],k9⟩∧e.length=43∧e.at 5=V.ptr 1 1 0∧e.at 8=V.ptr 3 3 0
theorem l70_1(a0:GDga)(a2:Ar .u8 8)(x5:Int){lo:Int}{s:(List Int)}{t:(List Int)}(hF:forR lo 8 (F70_1_B a0 a2 x5) (F70_1_D a0 a2 x5) s=some t){e:Env}{h:Heap}(hI:I70_1 a0 a2 x5 lo s e h):W A c70_1 e h (P70_1 a0 a2 x5 t):=by
 show W A (.block 0 (.loop false b70_1)) e h _;rw[qi];refine qr hF 4 (by obtain⟨_,rfl,_⟩:=hI; rfl) (I70_1 a0 a2 x5) hI ?_ ?_
 ·rintro v22_1 o1_1 e h ⟨k9,rfl,h_8⟩ hlt hw o ho
  unfold F70_1_B at ho;obtain⟨n11,gn11,ho⟩:=bS ho;obtain⟨w12a,w12b,w12c,w12d⟩:=qU gn11;have w13:qf none (List.drop n11 (arc .u8 8 a2.val))=some (V.int .u8 (a2.val.getD n11 0)):=zo (i:=n11) (by omega) (by omega);have w14:qf none (List.drop n11 (arc .u8 8 o1_1))=some (V.int .u8 (o1_1.getD n11 0)):=zo (i:=n11) (by omega) (by omega);obtain⟨x15,gx15,ho⟩:=bS ho;have wx15:=qx gx15;obtain⟨x16,gx16,ho⟩:=bS ho;have wx16:=qx gx16;obtain⟨x17,gx17,ho⟩:=bS ho;have wx17:=qx gx17;obtain⟨x18,gx18,ho⟩:=bS ho;have wx18:=qx gx18;have w19:qf none (qb a0)=some (V.int .i64 a0.Prime):=qA (a:=0) rfl;obtain⟨x20,gx20,ho⟩:=bS ho;obtain⟨w21a,w21b⟩:=rem_w gx20;obtain⟨l22,gl22,ho⟩:=bS ho;have w23:List.take n11 (arc .u8 8 o1_1)++[V.int .u8 (Go.IntKind.wrap .u8 x20)]++List.drop (n11+1) (arc .u8 8 o1_1)=arc .u8 8 l22:=by rw[←wA gl22]; exact arc_set (by omega)
  have w23l:n11+1≤8:=by omega
  cases ho;simp only[simprocAttr,R0,b70_1, *];refine ai rfl (ei _ (ai rfl ?_));simp only[simprocAttr,R0, *]
 ·rintro v22_1 o1_1 e h ⟨k9,rfl,h_8⟩ hge t1 ho
  unfold F70_1_D at ho;cases ho;simp only[simprocAttr,R0,b70_1, *];intro ht; subst ht;refine ai rfl (ei _ (ai rfl ?_));simp only[simprocAttr,R0, *]
theorem s70(a0:GDga)(a1:Ar .u8 8)(a2:Ar .u8 8)(a3:Int){r:Ar .u8 8}(hF:F70 a0 a1 a2 a3=some r):ans A 70 [V.agg (qb a0),V.agg (arc .u8 8 a1.val),V.agg (arc .u8 8 a2.val),V.int .i64 a3]=some (Enc.enc r):=by
 refine qu (f:=p70) rfl rfl rfl fun e hl he=>?_;have h0_0:e.at 0=V.agg (qb a0):=he 0 _ rfl;have h1_0:e.at 1=V.agg (arc .u8 8 a1.val):=he 1 _ rfl;have h2_0:e.at 2=V.agg (arc .u8 8 a2.val):=he 2 _ rfl;have h3_0:e.at 3=V.int .i64 a3:=he 3 _ rfl;have hl_0:e.length=43:=hl;clear he hl;show W A b70 e ⟨[],0⟩ _;unfold F70 at hF;have w1:qf none (qb a0)=some (V.int .i64 a0.Prime):=qA (a:=0) rfl;obtain⟨x2,gx2,hF⟩:=bS hF;obtain⟨w3a,w3b⟩:=rem_w gx2;obtain⟨x4,gx4,hF⟩:=bS hF;have wx4:=qx gx4;obtain⟨x5,gx5,hF⟩:=bS hF;obtain⟨w6a,w6b⟩:=rem_w gx5;obtain⟨zo1_1,gt24,hF⟩:=bS hF;simp only[simprocAttr,R0,b70, *];refine W.mono (l70_1 a0 a2 x5 gt24 (ei _ (ai rfl ?_))) ?_
 ·simp only[simprocAttr,R0, *]
 rintro _ e _ ⟨rfl,k9,rfl,h_10⟩;have w27:List.drop 8 (arc .u8 8 [])=[]:=wI (by rw[qj]; exact wG _);cases hF;simp only[simprocAttr,R0,wB, *];exact qd (by simp only[simprocAttr,R0,qe,p70,Rs.ev,qa,wB, *])
def F67(a0:Int):Option Bool:=
 if a0=2 then
  some true
 else
  if a0=3 then
   some true
  else
   if a0=5 then
    some true
   else
    some (decide (a0=7))
theorem s67(a0:Int){r:Bool}(hF:F67 a0=some r):ans A 67 [V.int .i64 a0]=some (Enc.enc r):=by
 refine qu (f:=p67) rfl rfl rfl fun e hl he=>?_;have h0_0:e.at 0=V.int .i64 a0:=he 0 _ rfl;have hl_0:e.length=17:=hl;clear he hl;have h_0:=ai hl_0 h0_0;show W A b67 e ⟨[],0⟩ _;unfold F67 at hF;by_cases c1:a0=2
 ·rw[if_pos c1]at hF
  cases hF;simp only[simprocAttr,R0,b67, *];exact qd (by simp only[simprocAttr,R0,qe,p67,Rs.ev,qa, *])
 ·rw[if_neg c1]at hF
  by_cases c2:a0=3
  ·rw[if_pos c2]at hF
   cases hF;simp only[simprocAttr,R0,b67, *];exact qd (by simp only[simprocAttr,R0,qe,p67,Rs.ev,qa, *])
  ·rw[if_neg c2]at hF
   by_cases c3:a0=5
   ·rw[if_pos c3]at hF
    cases hF;simp only[simprocAttr,R0,b67, *];exact qd (by simp only[simprocAttr,R0,qe,p67,Rs.ev,qa, *])
   ·rw[if_neg c3]at hF
    cases hF;simp only[simprocAttr,R0,b67, *];exact qd (by simp only[simprocAttr,R0,qe,p67,Rs.ev,qa, *])
def F195_1_B(a0:GDga)(a1:Ar .u8 8)(v8_1:Int)(s:Unit):Option ((Unit)⊕((Unit)⊕Bool)):=
 (ixI 8 v8_1).bind fun n5=>
(chk (a1.val.getD n5 0)).bind fun x8=>
if a0.Prime≤x8 then
 some (.inr (.inr false))
else
 if a0.Size≤v8_1 then
  if(a1.val.getD n5 0)=0 then
   some (.inl ())
  else
   some (.inr (.inr false))
 else
  some (.inl ())
def F195_1_D(a0:GDga)(a1:Ar .u8 8)(v8_1:Int)(s:Unit):Option ((Unit)⊕Bool):=
 some (.inl ())
def F195(a0:GDga)(a1:Ar .u8 8):Option Bool:=
 (forR 0 8 (F195_1_B a0 a1) (F195_1_D a0 a1) ()).bind fun t14=> match t14 with
  | .inl _=>
   some true
  | .inr r15=> some r15
def I195_1(a0:GDga)(a1:Ar .u8 8)(v8_1:Int)(s:Unit)(e:Env)(h:Heap):Prop:=
 ∃k3:Nat,h=⟨[(0,none),(0,none)],k3⟩∧e.length=28∧e.at 2=V.iptr (qb a0)∧e.at 7=V.agg (arc .u8 8 a1.val)∧e.at 8=V.int .i64 v8_1
def P195_1(a0:GDga)(a1:Ar .u8 8)(t:(Unit)⊕Bool)(x:Ex)(e:Env)(h:Heap):Prop:=
 match t with
 | .inl _=> x= .normal∧∃k3:Nat,h=⟨[(0,none),(0,none)],k3⟩∧e.length=28
 | .inr r=> x= .ret∧Fin p195 (Enc.enc r) .ret e h
theorem l195_1(a0:GDga)(a1:Ar .u8 8){lo:Int}{s:Unit}{t:(Unit)⊕Bool}(hF:forR lo 8 (F195_1_B a0 a1) (F195_1_D a0 a1) s=some t){e:Env}{h:Heap}(hI:I195_1 a0 a1 lo s e h):W A c195_1 e h (P195_1 a0 a1 t):=by
 show W A (.block 0 (.loop false b195_1)) e h _;rw[qi];refine qr hF 2 (by obtain⟨_,rfl,_⟩:=hI; rfl) (I195_1 a0 a1) hI ?_ ?_
 ·rintro v8_1 _ e h ⟨k3,rfl,h_2⟩ hlt hw o ho
  unfold F195_1_B at ho;obtain⟨n5,gn5,ho⟩:=bS ho;obtain⟨w6a,w6b,w6c,w6d⟩:=qU gn5;have w7:qf none (List.drop n5 (arc .u8 8 a1.val))=some (V.int .u8 (a1.val.getD n5 0)):=zo (i:=n5) (by omega) (by omega);obtain⟨x8,gx8,ho⟩:=bS ho;have wx8:=qx gx8;have w9:qf none (qb a0)=some (V.int .i64 a0.Prime):=qA (a:=0) rfl;by_cases c10:a0.Prime≤x8
  ·rw[if_pos c10]at ho
   cases ho;simp only[simprocAttr,R0,b195_1,h_2,eq_true hlt,hw,w6a,w6b,w6c,w7,wx8,w9,eq_true c10];intro ht; subst ht;simp only[simprocAttr,RR,RB];exact ai rfl (qd (by simp only[simprocAttr,R0,qe,p195,Rs.ev,qa,h_2,eq_true hlt,hw,w6a,w6b,w6c,w7,wx8,w9,eq_true c10]))
  ·rw[if_neg c10]at ho
   have w11:qf none (List.drop 1 (qb a0))=some (V.int .i64 a0.Size):=qk rfl;by_cases c12:a0.Size≤v8_1
   ·rw[if_pos c12]at ho
    by_cases c13:(a1.val.getD n5 0)=0
    ·rw[if_pos c13]at ho
     cases ho;simp only[simprocAttr,R0,b195_1,h_2,eq_true hlt,hw,w6a,w6b,w6c,w7,wx8,w9,eq_false c10,w11,eq_true c12,eq_true c13];refine ai rfl (ei _ (ai rfl ?_));simp only[simprocAttr,R0,h_2,eq_true hlt,hw,w6a,w6b,w6c,w7,wx8,w9,eq_false c10,w11,eq_true c12,eq_true c13]
    ·rw[if_neg c13]at ho
     cases ho;simp only[simprocAttr,R0,b195_1,h_2,eq_true hlt,hw,w6a,w6b,w6c,w7,wx8,w9,eq_false c10,w11,eq_true c12,eq_false c13];intro ht; subst ht;simp only[simprocAttr,RR,RB];exact ai rfl (qd (by simp only[simprocAttr,R0,qe,p195,Rs.ev,qa,h_2,eq_true hlt,hw,w6a,w6b,w6c,w7,wx8,w9,eq_false c10,w11,eq_true c12,eq_false c13]))
   ·rw[if_neg c12]at ho
    cases ho;simp only[simprocAttr,R0,b195_1,h_2,eq_true hlt,hw,w6a,w6b,w6c,w7,wx8,w9,eq_false c10,w11,eq_false c12];refine ai rfl (ei _ (ai rfl ?_));simp only[simprocAttr,R0,h_2,eq_true hlt,hw,w6a,w6b,w6c,w7,wx8,w9,eq_false c10,w11,eq_false c12]
 ·rintro v8_1 _ e h ⟨k3,rfl,h_2⟩ hge t1 ho
  unfold F195_1_D at ho;cases ho;simp only[simprocAttr,R0,b195_1,h_2,eq_false hge];intro ht; subst ht;refine ai rfl (ei _ (ai rfl ?_));simp only[simprocAttr,R0,h_2,eq_false hge]
theorem s195(a0:GDga)(a1:Ar .u8 8){r:Bool}(hF:F195 a0 a1=some r):ans A 195 [V.agg (qb a0),V.agg (arc .u8 8 a1.val)]=some (Enc.enc r):=by
 refine qu (f:=p195) rfl rfl rfl fun e hl he=>?_;have h0_0:e.at 0=V.agg (qb a0):=he 0 _ rfl;have h1_0:e.at 1=V.agg (arc .u8 8 a1.val):=he 1 _ rfl;have hl_0:e.length=28:=hl;clear he hl;have h_0:=ai hl_0 (ai h0_0 h1_0);show W A b195 e ⟨[],0⟩ _;unfold F195 at hF;obtain⟨t14,gt14,hF⟩:=bS hF;rcases t14 with _|r15
 ·dsimp only at hF
  simp only[simprocAttr,R0,b195, *];refine W.mono (l195_1 a0 a1 gt14 (ei _ (ai rfl ?_))) ?_
  ·simp only[simprocAttr,R0, *]
  rintro _ e _ ⟨rfl,k3,rfl,hl_4⟩;cases hF;simp only[simprocAttr,R0, *];exact qd (by simp only[simprocAttr,R0,qe,p195,Rs.ev,qa, *])
 ·dsimp only at hF
  cases hF;simp only[simprocAttr,R0,b195, *];refine W.mono (l195_1 a0 a1 gt14 (ei _ (ai rfl ?_))) ?_
  ·simp only[simprocAttr,R0, *]
  rintro _ e h ⟨rfl,hq⟩;simp only[simprocAttr,RR,RB];exact hq
def F196_1_B(a0:GDga)(a1:Ar .u8 8)(a2:Int)(a3:Int)(v12_1:Int)(s:Unit):Option ((Unit)⊕((Unit)⊕Bool)):=
 (ixI 8 v12_1).bind fun n5=>
if(a1.val.getD n5 0)=0 then
 some (.inl ())
else
 if(a0.Degrees.val.getD n5 0)=a2 then
  if a3 < (a0.Levels.val.getD n5 0)then
   some (.inr (.inr false))
  else
   some (.inl ())
 else
  some (.inr (.inr false))
def F196_1_D(a0:GDga)(a1:Ar .u8 8)(a2:Int)(a3:Int)(v12_1:Int)(s:Unit):Option ((Unit)⊕Bool):=
 some (.inl ())
def F196(a0:GDga)(a1:Ar .u8 8)(a2:Int)(a3:Int):Option Bool:=
 (forR 0 8 (F196_1_B a0 a1 a2 a3) (F196_1_D a0 a1 a2 a3) ()).bind fun t13=> match t13 with
  | .inl _=>
   some true
  | .inr r14=> some r14
def I196_1(a0:GDga)(a1:Ar .u8 8)(a2:Int)(a3:Int)(v12_1:Int)(s:Unit)(e:Env)(h:Heap):Prop:=
 ∃k3:Nat,h=⟨[(0,none),(0,none)],k3⟩∧e.length=35∧e.at 2=V.int .i64 a2∧e.at 3=V.int .i64 a3∧e.at 4=V.iptr (qb a0)∧e.at 11=V.agg (arc .u8 8 a1.val)∧e.at 12=V.int .i64 v12_1
def P196_1(a0:GDga)(a1:Ar .u8 8)(a2:Int)(a3:Int)(t:(Unit)⊕Bool)(x:Ex)(e:Env)(h:Heap):Prop:=
 match t with
 | .inl _=> x= .normal∧∃k3:Nat,h=⟨[(0,none),(0,none)],k3⟩∧e.length=35
 | .inr r=> x= .ret∧Fin p196 (Enc.enc r) .ret e h
theorem l196_1(a0:GDga)(a1:Ar .u8 8)(a2:Int)(a3:Int){lo:Int}{s:Unit}{t:(Unit)⊕Bool}(hF:forR lo 8 (F196_1_B a0 a1 a2 a3) (F196_1_D a0 a1 a2 a3) s=some t){e:Env}{h:Heap}(hI:I196_1 a0 a1 a2 a3 lo s e h):W A c196_1 e h (P196_1 a0 a1 a2 a3 t):=by
 show W A (.block 0 (.loop false b196_1)) e h _;rw[qi];refine qr hF 2 (by obtain⟨_,rfl,_⟩:=hI; rfl) (I196_1 a0 a1 a2 a3) hI ?_ ?_
 ·rintro v12_1 _ e h ⟨k3,rfl,h_2⟩ hlt hw o ho
  unfold F196_1_B at ho;obtain⟨n5,gn5,ho⟩:=bS ho;obtain⟨w6a,w6b,w6c,w6d⟩:=qU gn5;have w7:qf none (List.drop n5 (arc .u8 8 a1.val))=some (V.int .u8 (a1.val.getD n5 0)):=zo (i:=n5) (by omega) (by omega);by_cases c8:(a1.val.getD n5 0)=0
  ·rw[if_pos c8]at ho
   cases ho;simp only[simprocAttr,R0,b196_1, *];refine ai rfl (ei _ (ai rfl ?_));simp only[simprocAttr,R0, *]
  ·rw[if_neg c8]at ho
   have w9:qf none (List.drop n5 (List.drop 2 (qb a0)))=some (V.int .i64 (a0.Degrees.val.getD n5 0)):=by simp only[wH]; exact qm (i:=n5) (by omega) (by omega)
   by_cases c10:(a0.Degrees.val.getD n5 0)=a2
   ·rw[if_pos c10]at ho
    have w11:qf none (List.drop n5 (List.drop 10 (qb a0)))=some (V.int .i64 (a0.Levels.val.getD n5 0)):=by simp only[wH]; exact qv (i:=n5) (by omega) (by omega)
    by_cases c12:a3 < (a0.Levels.val.getD n5 0)
    ·rw[if_pos c12]at ho
     cases ho;simp only[simprocAttr,R0,b196_1, *];intro ht; subst ht;simp only[simprocAttr,RR,RB];exact ai rfl (qd (by simp only[simprocAttr,R0,qe,p196,Rs.ev,qa, *]))
    ·rw[if_neg c12]at ho
     cases ho;simp only[simprocAttr,R0,b196_1, *];refine ai rfl (ei _ (ai rfl ?_));simp only[simprocAttr,R0, *]
   ·rw[if_neg c10]at ho
    cases ho;simp only[simprocAttr,R0,b196_1, *];intro ht; subst ht;simp only[simprocAttr,RR,RB];exact ai rfl (qd (by simp only[simprocAttr,R0,qe,p196,Rs.ev,qa, *]))
 ·rintro v12_1 _ e h ⟨k3,rfl,h_2⟩ hge t1 ho
  unfold F196_1_D at ho;cases ho;simp only[simprocAttr,R0,b196_1, *];intro ht; subst ht;refine ai rfl (ei _ (ai rfl ?_));simp only[simprocAttr,R0, *]
theorem s196(a0:GDga)(a1:Ar .u8 8)(a2:Int)(a3:Int){r:Bool}(hF:F196 a0 a1 a2 a3=some r):ans A 196 [V.agg (qb a0),V.agg (arc .u8 8 a1.val),V.int .i64 a2,V.int .i64 a3]=some (Enc.enc r):=by
 refine qu (f:=p196) rfl rfl rfl fun e hl he=>?_;have h0_0:e.at 0=V.agg (qb a0):=he 0 _ rfl;have h1_0:e.at 1=V.agg (arc .u8 8 a1.val):=he 1 _ rfl;have h2_0:e.at 2=V.int .i64 a2:=he 2 _ rfl;have h3_0:e.at 3=V.int .i64 a3:=he 3 _ rfl;have hl_0:e.length=35:=hl;clear he hl;have h_0:=ai hl_0 (ai h0_0 (ai h1_0 (ai h2_0 h3_0)));show W A b196 e ⟨[],0⟩ _;unfold F196 at hF;obtain⟨t13,gt13,hF⟩:=bS hF;rcases t13 with _|r14
 ·dsimp only at hF
  simp only[simprocAttr,R0,b196, *];refine W.mono (l196_1 a0 a1 a2 a3 gt13 (ei _ (ai rfl ?_))) ?_
  ·simp only[simprocAttr,R0, *]
  rintro _ e _ ⟨rfl,k3,rfl,hl_4⟩;cases hF;simp only[simprocAttr,R0, *];exact qd (by simp only[simprocAttr,R0,qe,p196,Rs.ev,qa, *])
 ·dsimp only at hF
  cases hF;simp only[simprocAttr,R0,b196, *];refine W.mono (l196_1 a0 a1 a2 a3 gt13 (ei _ (ai rfl ?_))) ?_
  ·simp only[simprocAttr,R0, *]
  rintro _ e h ⟨rfl,hq⟩;simp only[simprocAttr,RR,RB];exact hq
def xL(a0:GDga)(v17_1:Int)(v106_2:Int)(s:Unit):Option ((Unit)⊕((Unit)⊕Bool)):=
 (ixI 8 v17_1).bind fun n35=>
(ixI 8 v106_2).bind fun n37=>
(F195 a0 ⟨(arP a0.Table.val (n35*64+n37*8) 8)⟩).bind fun x43=>
if x43=true then
 if v17_1 < a0.Size then
  if a0.Size≤v106_2 then
   (arE .u8 8 (arP a0.Table.val (n35*64+n37*8) 8) []).bind fun x49=>
   if x49=true then
    (F196 a0 ⟨(arP a0.Table.val (n35*64+n37*8) 8)⟩ (Go.IntKind.wrap .i64 ((a0.Degrees.val.getD n35 0)+(a0.Degrees.val.getD n37 0))) (Go.IntKind.wrap .i64 ((a0.Levels.val.getD n35 0)+(a0.Levels.val.getD n37 0)))).bind fun x56=>
    if x56=true then
     some (.inl ())
    else
     some (.inr (.inr false))
   else
    some (.inr (.inr false))
  else
   (F196 a0 ⟨(arP a0.Table.val (n35*64+n37*8) 8)⟩ (Go.IntKind.wrap .i64 ((a0.Degrees.val.getD n35 0)+(a0.Degrees.val.getD n37 0))) (Go.IntKind.wrap .i64 ((a0.Levels.val.getD n35 0)+(a0.Levels.val.getD n37 0)))).bind fun x63=>
   if x63=true then
    some (.inl ())
   else
    some (.inr (.inr false))
 else
  (arE .u8 8 (arP a0.Table.val (n35*64+n37*8) 8) []).bind fun x66=>
  if x66=true then
   (F196 a0 ⟨(arP a0.Table.val (n35*64+n37*8) 8)⟩ (Go.IntKind.wrap .i64 ((a0.Degrees.val.getD n35 0)+(a0.Degrees.val.getD n37 0))) (Go.IntKind.wrap .i64 ((a0.Levels.val.getD n35 0)+(a0.Levels.val.getD n37 0)))).bind fun x73=>
   if x73=true then
    some (.inl ())
   else
    some (.inr (.inr false))
  else
   some (.inr (.inr false))
else
 some (.inr (.inr false))
def F176_2_D(a0:GDga)(v17_1:Int)(v106_2:Int)(s:Unit):Option ((Unit)⊕Bool):=
 some (.inl ())
def F176_1_B(a0:GDga)(v17_1:Int)(s:Unit):Option ((Unit)⊕((Unit)⊕Bool)):=
 if v17_1 < a0.Size then
 (ixI 8 v17_1).bind fun n12=>
 (F56 (a0.Degrees.val.getD n12 0) 0 5).bind fun x15=>
 if x15=true then
  (F56 (a0.Levels.val.getD n12 0) 0 5).bind fun x18=>
  if x18=true then
   (F195 a0 ⟨(arP a0.Diff.val (n12*8) 8)⟩).bind fun x21=>
   if x21=true then
    if 0 < v17_1 then
     (chk (v17_1 - 1)).bind fun x24=>
     (ixI 8 x24).bind fun n25=>
     if(a0.Degrees.val.getD n12 0) < (a0.Degrees.val.getD n25 0)then
      some (.inr (.inr false))
     else
      (chk ((a0.Degrees.val.getD n12 0) - 1)).bind fun x29=>
      (F196 a0 ⟨(arP a0.Diff.val (n12*8) 8)⟩ x29 (a0.Levels.val.getD n12 0)).bind fun x30=>
      if x30=true then
       (forR 0 8 (xL a0 v17_1) (F176_2_D a0 v17_1) ()).bind fun t75=> match t75 with
        | .inl _=>
         some (.inl ())
        | .inr r76=> some (.inr (.inr r76))
      else
       some (.inr (.inr false))
    else
     (chk ((a0.Degrees.val.getD n12 0) - 1)).bind fun x77=>
     (F196 a0 ⟨(arP a0.Diff.val (n12*8) 8)⟩ x77 (a0.Levels.val.getD n12 0)).bind fun x78=>
     if x78=true then
      (forR 0 8 (xL a0 v17_1) (F176_2_D a0 v17_1) ()).bind fun t123=> match t123 with
       | .inl _=>
        some (.inl ())
       | .inr r124=> some (.inr (.inr r124))
     else
      some (.inr (.inr false))
   else
    some (.inr (.inr false))
  else
   some (.inr (.inr false))
 else
  some (.inr (.inr false))
else
 (ixI 8 v17_1).bind fun n125=>
 if(a0.Degrees.val.getD n125 0)=0 then
  if(a0.Levels.val.getD n125 0)=0 then
   (arE .u8 8 (arP a0.Diff.val (n125*8) 8) []).bind fun x132=>
   if x132=true then
    (F56 (a0.Degrees.val.getD n125 0) 0 5).bind fun x134=>
    if x134=true then
     (F56 (a0.Levels.val.getD n125 0) 0 5).bind fun x136=>
     if x136=true then
      (F195 a0 ⟨(arP a0.Diff.val (n125*8) 8)⟩).bind fun x138=>
      if x138=true then
       (forR 0 8 (xL a0 v17_1) (F176_2_D a0 v17_1) ()).bind fun t183=> match t183 with
        | .inl _=>
         some (.inl ())
        | .inr r184=> some (.inr (.inr r184))
      else
       some (.inr (.inr false))
     else
      some (.inr (.inr false))
    else
     some (.inr (.inr false))
   else
    some (.inr (.inr false))
  else
   some (.inr (.inr false))
 else
  some (.inr (.inr false))
def F176_1_D(a0:GDga)(v17_1:Int)(s:Unit):Option ((Unit)⊕Bool):=
 some (.inl ())
def F176(a0:GDga):Option Bool:=
 (F67 a0.Prime).bind fun x2=>
 if x2=true then
  (F56 a0.Size 1 8).bind fun x5=>
  if x5=true then
   (forR 0 8 (F176_1_B a0) (F176_1_D a0) ()).bind fun t185=> match t185 with
    | .inl _=>
     if(a0.Degrees.val.getD 0 0)=0 then
      some (decide ((a0.Levels.val.getD 0 0)=0))
     else
      some false
    | .inr r189=> some r189
  else
   some false
 else
  some false
def I176_2(a0:GDga)(v17_1:Int)(v106_2:Int)(s:Unit)(e:Env)(h:Heap):Prop:=
 ∃k33:Nat,h=⟨[(0,none)],k33⟩∧e.length=170∧e.at 1=V.iptr (qb a0)∧e.at 3=V.int .i64 v17_1∧e.at 4=V.bool (decide (v17_1 < a0.Size))∧e.at 17=V.int .i64 v17_1∧e.at 106=V.int .i64 v106_2
def P176_2(a0:GDga)(v17_1:Int)(t:(Unit)⊕Bool)(x:Ex)(e:Env)(h:Heap):Prop:=
 match t with
 | .inl _=> x= .normal∧∃k33:Nat,h=⟨[(0,none)],k33⟩∧e.length=170∧e.at 1=V.iptr (qb a0)∧e.at 17=V.int .i64 v17_1
 | .inr r=> x= .ret∧Fin p176 (Enc.enc r) .ret e h
set_option maxHeartbeats 8000000 in
theorem l176_2(a0:GDga)(v17_1:Int){lo:Int}{s:Unit}{t:(Unit)⊕Bool}(hF:forR lo 8 (xL a0 v17_1) (F176_2_D a0 v17_1) s=some t){e:Env}{h:Heap}(hI:I176_2 a0 v17_1 lo s e h):W A c176_2 e h (P176_2 a0 v17_1 t):=by
 show W A (.block 2 (.loop false b176_2)) e h _;rw[qi];refine qr hF 1 (by obtain⟨_,rfl,_⟩:=hI; rfl) (I176_2 a0 v17_1) hI ?_ ?_
 ·rintro v106_2 _ e h ⟨k33,rfl,h_32⟩ hlt hw o ho
  unfold xL at ho;obtain⟨n35,gn35,ho⟩:=bS ho;obtain⟨w36a,w36b,w36c,w36d⟩:=qU gn35;obtain⟨n37,gn37,ho⟩:=bS ho;obtain⟨w38a,w38b,w38c,w38d⟩:=qU gn37;have w39:List.take 8 (List.drop (n37*8) (List.drop (n35*64) (List.drop 82 (qb a0))))=arc .u8 8 (arP a0.Table.val (n35*64+n37*8) 8):=by simp only[wH]; exact qG (i:=n35*64+n37*8) (m:=8) (by omega) (by omega)
  have w39l:8≤List.length (List.drop (n37*8) (List.drop (n35*64) (List.drop 82 (qb a0)))):=by simp only[wQ,qj,qy]; omega
  have w41:List.drop 8 (arc .u8 8 [])=[]:=wI (by rw[qj]; exact wG _);obtain⟨x43,gx43,ho⟩:=bS ho;have w44:ans A 195 [V.agg (qb a0),V.agg (arc .u8 8 (arP a0.Table.val (n35*64+n37*8) 8))]=some (V.bool x43):=s195 a0 ⟨(arP a0.Table.val (n35*64+n37*8) 8)⟩ gx43;cases x43 with
  |true=>
   rw[if_pos rfl]at ho;by_cases c45:v17_1 < a0.Size
   ·rw[if_pos c45]at ho
    have w46:qf none (List.drop 1 (qb a0))=some (V.int .i64 a0.Size):=qk rfl;by_cases c47:a0.Size≤v106_2
    ·rw[if_pos c47]at ho
     obtain⟨x49,gx49,ho⟩:=bS ho;have w50:eqSV true 12 (Lay.arr 8 8 1 (Lay.int Go.IntKind.u8)) (V.agg (arc .u8 8 (arP a0.Table.val (n35*64+n37*8) 8))) (V.agg (arc .u8 8 []))=some (V.bool (!x49)):=zE gx49;cases x49 with
     |true=>
      rw[if_pos rfl]at ho;have w52:qf none (List.drop n35 (List.drop 2 (qb a0)))=some (V.int .i64 (a0.Degrees.val.getD n35 0)):=by simp only[wH]; exact qm (i:=n35) (by omega) (by omega)
      have w53:qf none (List.drop n37 (List.drop 2 (qb a0)))=some (V.int .i64 (a0.Degrees.val.getD n37 0)):=by simp only[wH]; exact qm (i:=n37) (by omega) (by omega)
      have w54:qf none (List.drop n35 (List.drop 10 (qb a0)))=some (V.int .i64 (a0.Levels.val.getD n35 0)):=by simp only[wH]; exact qv (i:=n35) (by omega) (by omega)
      have w55:qf none (List.drop n37 (List.drop 10 (qb a0)))=some (V.int .i64 (a0.Levels.val.getD n37 0)):=by simp only[wH]; exact qv (i:=n37) (by omega) (by omega)
      obtain⟨x56,gx56,ho⟩:=bS ho;have w57:ans A 196 [V.agg (qb a0),V.agg (arc .u8 8 (arP a0.Table.val (n35*64+n37*8) 8)),V.int .i64 (Go.IntKind.wrap .i64 ((a0.Degrees.val.getD n35 0)+(a0.Degrees.val.getD n37 0))),V.int .i64 (Go.IntKind.wrap .i64 ((a0.Levels.val.getD n35 0)+(a0.Levels.val.getD n37 0)))]=some (V.bool x56):=s196 a0 ⟨(arP a0.Table.val (n35*64+n37*8) 8)⟩ (Go.IntKind.wrap .i64 ((a0.Degrees.val.getD n35 0)+(a0.Degrees.val.getD n37 0))) (Go.IntKind.wrap .i64 ((a0.Levels.val.getD n35 0)+(a0.Levels.val.getD n37 0))) gx56;cases x56 with
      |true=>
       rw[if_pos rfl]at ho;cases ho;simp only[simprocAttr, -Int.reduceNatCast',R0,b176_2,wB, *];refine ai rfl (ei _ (ai rfl ?_));simp only[simprocAttr, -Int.reduceNatCast',R0,wB, *]
      |false=>
       rw[if_neg wC]at ho;cases ho;simp only[simprocAttr, -Int.reduceNatCast',R0,b176_2,wB, *];intro ht; subst ht;simp only[simprocAttr, -Int.reduceNatCast',RR,RB];exact ai rfl (qd (by simp only[simprocAttr, -Int.reduceNatCast',R0,qe,p176,Rs.ev,qa,wB, *]))
     |false=>
      rw[if_neg wC]at ho;cases ho;simp only[simprocAttr, -Int.reduceNatCast',R0,b176_2,wB, *];intro ht; subst ht;simp only[simprocAttr, -Int.reduceNatCast',RR,RB];exact ai rfl (qd (by simp only[simprocAttr, -Int.reduceNatCast',R0,qe,p176,Rs.ev,qa,wB, *]))
    ·rw[if_neg c47]at ho
     have w59:qf none (List.drop n35 (List.drop 2 (qb a0)))=some (V.int .i64 (a0.Degrees.val.getD n35 0)):=by simp only[wH]; exact qm (i:=n35) (by omega) (by omega)
     have w60:qf none (List.drop n37 (List.drop 2 (qb a0)))=some (V.int .i64 (a0.Degrees.val.getD n37 0)):=by simp only[wH]; exact qm (i:=n37) (by omega) (by omega)
     have w61:qf none (List.drop n35 (List.drop 10 (qb a0)))=some (V.int .i64 (a0.Levels.val.getD n35 0)):=by simp only[wH]; exact qv (i:=n35) (by omega) (by omega)
     have w62:qf none (List.drop n37 (List.drop 10 (qb a0)))=some (V.int .i64 (a0.Levels.val.getD n37 0)):=by simp only[wH]; exact qv (i:=n37) (by omega) (by omega)
     obtain⟨x63,gx63,ho⟩:=bS ho;have w64:ans A 196 [V.agg (qb a0),V.agg (arc .u8 8 (arP a0.Table.val (n35*64+n37*8) 8)),V.int .i64 (Go.IntKind.wrap .i64 ((a0.Degrees.val.getD n35 0)+(a0.Degrees.val.getD n37 0))),V.int .i64 (Go.IntKind.wrap .i64 ((a0.Levels.val.getD n35 0)+(a0.Levels.val.getD n37 0)))]=some (V.bool x63):=s196 a0 ⟨(arP a0.Table.val (n35*64+n37*8) 8)⟩ (Go.IntKind.wrap .i64 ((a0.Degrees.val.getD n35 0)+(a0.Degrees.val.getD n37 0))) (Go.IntKind.wrap .i64 ((a0.Levels.val.getD n35 0)+(a0.Levels.val.getD n37 0))) gx63;cases x63 with
     |true=>
      rw[if_pos rfl]at ho;cases ho;simp only[simprocAttr, -Int.reduceNatCast',R0,b176_2,wB, *];refine ai rfl (ei _ (ai rfl ?_));simp only[simprocAttr, -Int.reduceNatCast',R0,wB, *]
     |false=>
      rw[if_neg wC]at ho;cases ho;simp only[simprocAttr, -Int.reduceNatCast',R0,b176_2,wB, *];intro ht; subst ht;simp only[simprocAttr, -Int.reduceNatCast',RR,RB];exact ai rfl (qd (by simp only[simprocAttr, -Int.reduceNatCast',R0,qe,p176,Rs.ev,qa,wB, *]))
   ·rw[if_neg c45]at ho
    obtain⟨x66,gx66,ho⟩:=bS ho;have w67:eqSV true 12 (Lay.arr 8 8 1 (Lay.int Go.IntKind.u8)) (V.agg (arc .u8 8 (arP a0.Table.val (n35*64+n37*8) 8))) (V.agg (arc .u8 8 []))=some (V.bool (!x66)):=zE gx66;cases x66 with
    |true=>
     rw[if_pos rfl]at ho;have w69:qf none (List.drop n35 (List.drop 2 (qb a0)))=some (V.int .i64 (a0.Degrees.val.getD n35 0)):=by simp only[wH]; exact qm (i:=n35) (by omega) (by omega)
     have w70:qf none (List.drop n37 (List.drop 2 (qb a0)))=some (V.int .i64 (a0.Degrees.val.getD n37 0)):=by simp only[wH]; exact qm (i:=n37) (by omega) (by omega)
     have w71:qf none (List.drop n35 (List.drop 10 (qb a0)))=some (V.int .i64 (a0.Levels.val.getD n35 0)):=by simp only[wH]; exact qv (i:=n35) (by omega) (by omega)
     have w72:qf none (List.drop n37 (List.drop 10 (qb a0)))=some (V.int .i64 (a0.Levels.val.getD n37 0)):=by simp only[wH]; exact qv (i:=n37) (by omega) (by omega)
     obtain⟨x73,gx73,ho⟩:=bS ho;have w74:ans A 196 [V.agg (qb a0),V.agg (arc .u8 8 (arP a0.Table.val (n35*64+n37*8) 8)),V.int .i64 (Go.IntKind.wrap .i64 ((a0.Degrees.val.getD n35 0)+(a0.Degrees.val.getD n37 0))),V.int .i64 (Go.IntKind.wrap .i64 ((a0.Levels.val.getD n35 0)+(a0.Levels.val.getD n37 0)))]=some (V.bool x73):=s196 a0 ⟨(arP a0.Table.val (n35*64+n37*8) 8)⟩ (Go.IntKind.wrap .i64 ((a0.Degrees.val.getD n35 0)+(a0.Degrees.val.getD n37 0))) (Go.IntKind.wrap .i64 ((a0.Levels.val.getD n35 0)+(a0.Levels.val.getD n37 0))) gx73;cases x73 with
     |true=>
      rw[if_pos rfl]at ho;cases ho;simp only[simprocAttr, -Int.reduceNatCast',R0,b176_2,wB, *];refine ai rfl (ei _ (ai rfl ?_));simp only[simprocAttr, -Int.reduceNatCast',R0,wB, *]
     |false=>
      rw[if_neg wC]at ho;cases ho;simp only[simprocAttr, -Int.reduceNatCast',R0,b176_2,wB, *];intro ht; subst ht;simp only[simprocAttr, -Int.reduceNatCast',RR,RB];exact ai rfl (qd (by simp only[simprocAttr, -Int.reduceNatCast',R0,qe,p176,Rs.ev,qa,wB, *]))
    |false=>
     rw[if_neg wC]at ho;cases ho;simp only[simprocAttr, -Int.reduceNatCast',R0,b176_2,wB, *];intro ht; subst ht;simp only[simprocAttr, -Int.reduceNatCast',RR,RB];exact ai rfl (qd (by simp only[simprocAttr, -Int.reduceNatCast',R0,qe,p176,Rs.ev,qa,wB, *]))
  |false=>
   rw[if_neg wC]at ho;cases ho;simp only[simprocAttr, -Int.reduceNatCast',R0,b176_2,wB, *];intro ht; subst ht;simp only[simprocAttr, -Int.reduceNatCast',RR,RB];exact ai rfl (qd (by simp only[simprocAttr, -Int.reduceNatCast',R0,qe,p176,Rs.ev,qa,wB, *]))
 ·rintro v106_2 _ e h ⟨k33,rfl,h_32⟩ hge t1 ho
  unfold F176_2_D at ho;cases ho;simp only[simprocAttr, -Int.reduceNatCast',R0,b176_2, *];intro ht; subst ht;refine ai rfl (ei _ (ai rfl ?_));simp only[simprocAttr, -Int.reduceNatCast',R0, *]
def I176_1(a0:GDga)(v17_1:Int)(s:Unit)(e:Env)(h:Heap):Prop:=
 ∃k8:Nat,h=⟨[(0,none)],k8⟩∧e.length=170∧e.at 1=V.iptr (qb a0)∧e.at 17=V.int .i64 v17_1
def P176_1(a0:GDga)(t:(Unit)⊕Bool)(x:Ex)(e:Env)(h:Heap):Prop:=
 match t with
 | .inl _=> x= .normal∧∃k8:Nat,h=⟨[(0,none)],k8⟩∧e.length=170∧e.at 1=V.iptr (qb a0)
 | .inr r=> x= .ret∧Fin p176 (Enc.enc r) .ret e h
set_option maxHeartbeats 8000000 in
theorem l176_1(a0:GDga){lo:Int}{s:Unit}{t:(Unit)⊕Bool}(hF:forR lo 8 (F176_1_B a0) (F176_1_D a0) s=some t){e:Env}{h:Heap}(hI:I176_1 a0 lo s e h):W A c176_1 e h (P176_1 a0 t):=by
 show W A (.block 0 (.loop false jb)) e h _;rw[qi];refine qr hF 1 (by obtain⟨_,rfl,_⟩:=hI; rfl) (I176_1 a0) hI ?_ ?_
 ·rintro v17_1 _ e h ⟨k8,rfl,h_7⟩ hlt hw o ho
  unfold F176_1_B at ho;have w10:qf none (List.drop 1 (qb a0))=some (V.int .i64 a0.Size):=qk rfl;by_cases c11:v17_1 < a0.Size
  ·rw[if_pos c11]at ho
   obtain⟨n12,gn12,ho⟩:=bS ho;obtain⟨w13a,w13b,w13c,w13d⟩:=qU gn12;have w14:qf none (List.drop n12 (List.drop 2 (qb a0)))=some (V.int .i64 (a0.Degrees.val.getD n12 0)):=by simp only[wH]; exact qm (i:=n12) (by omega) (by omega)
   obtain⟨x15,gx15,ho⟩:=bS ho;have w16:ans A 56 [V.int .i64 (a0.Degrees.val.getD n12 0),V.int .i64 0,V.int .i64 5]=some (V.bool x15):=s56 (a0.Degrees.val.getD n12 0) 0 5 gx15;cases x15 with
   |true=>
    rw[if_pos rfl]at ho;have w17:qf none (List.drop n12 (List.drop 10 (qb a0)))=some (V.int .i64 (a0.Levels.val.getD n12 0)):=by simp only[wH]; exact qv (i:=n12) (by omega) (by omega)
    obtain⟨x18,gx18,ho⟩:=bS ho;have w19:ans A 56 [V.int .i64 (a0.Levels.val.getD n12 0),V.int .i64 0,V.int .i64 5]=some (V.bool x18):=s56 (a0.Levels.val.getD n12 0) 0 5 gx18;cases x18 with
    |true=>
     rw[if_pos rfl]at ho;have w20:List.take 8 (List.drop (n12*8) (List.drop 18 (qb a0)))=arc .u8 8 (arP a0.Diff.val (n12*8) 8):=by simp only[wH]; exact qH (i:=n12*8) (m:=8) (by omega) (by omega)
     have w20l:8≤List.length (List.drop (n12*8) (List.drop 18 (qb a0))):=by simp only[wQ,qj,qy]; omega
     obtain⟨x21,gx21,ho⟩:=bS ho;have w22:ans A 195 [V.agg (qb a0),V.agg (arc .u8 8 (arP a0.Diff.val (n12*8) 8))]=some (V.bool x21):=s195 a0 ⟨(arP a0.Diff.val (n12*8) 8)⟩ gx21;cases x21 with
     |true=>
      rw[if_pos rfl]at ho;by_cases c23:0 < v17_1
      ·rw[if_pos c23]at ho
       obtain⟨x24,gx24,ho⟩:=bS ho;have wx24:=qx gx24;obtain⟨n25,gn25,ho⟩:=bS ho;obtain⟨w26a,w26b,w26c,w26d⟩:=qU gn25;have w27:qf none (List.drop n25 (List.drop 2 (qb a0)))=some (V.int .i64 (a0.Degrees.val.getD n25 0)):=by simp only[wH]; exact qm (i:=n25) (by omega) (by omega)
       by_cases c28:(a0.Degrees.val.getD n12 0) < (a0.Degrees.val.getD n25 0)
       ·rw[if_pos c28]at ho
        cases ho;simp only[simprocAttr, -Int.reduceNatCast',R0,jb,h_7,eq_true hlt,hw,w10,eq_true c11,w13a,w13b,w13c,w14,w16,w17,w19,w20,eq_true w20l,w22,eq_true c23,wx24,w26a,w26b,w26c,w27,eq_true c28];intro ht; subst ht;simp only[simprocAttr, -Int.reduceNatCast',RR,RB];exact ai rfl (qd (by simp only[simprocAttr, -Int.reduceNatCast',R0,qe,p176,Rs.ev,qa,h_7,eq_true hlt,hw,w10,eq_true c11,w13a,w13b,w13c,w14,w16,w17,w19,w20,eq_true w20l,w22,eq_true c23,wx24,w26a,w26b,w26c,w27,eq_true c28]))
       ·rw[if_neg c28]at ho
        obtain⟨x29,gx29,ho⟩:=bS ho;have wx29:=qx gx29;obtain⟨x30,gx30,ho⟩:=bS ho;have w31:ans A 196 [V.agg (qb a0),V.agg (arc .u8 8 (arP a0.Diff.val (n12*8) 8)),V.int .i64 x29,V.int .i64 (a0.Levels.val.getD n12 0)]=some (V.bool x30):=s196 a0 ⟨(arP a0.Diff.val (n12*8) 8)⟩ x29 (a0.Levels.val.getD n12 0) gx30;cases x30 with
        |true=>
         rw[if_pos rfl]at ho;obtain⟨t75,gt75,ho⟩:=bS ho;rcases t75 with _|r76
         ·dsimp only at ho
          simp only[simprocAttr, -Int.reduceNatCast',R0,jb,h_7,eq_true hlt,hw,w10,eq_true c11,w13a,w13b,w13c,w14,w16,w17,w19,w20,eq_true w20l,w22,eq_true c23,wx24,w26a,w26b,w26c,w27,eq_false c28,wx29,w31];refine W.mono (l176_2 a0 v17_1 gt75 (ei _ (ai rfl ?_))) ?_
          ·simp only[simprocAttr, -Int.reduceNatCast',R0,h_7,eq_true hlt,hw,w10,eq_true c11,w13a,w13b,w13c,w14,w16,w17,w19,w20,eq_true w20l,w22,eq_true c23,wx24,w26a,w26b,w26c,w27,eq_false c28,wx29,w31]
          rintro _ e _ ⟨rfl,k33,rfl,h_34⟩;cases ho;simp only[simprocAttr, -Int.reduceNatCast',R0,h_34,eq_true hlt,hw,eq_true c11,eq_true w20l,eq_true c23,eq_false c28];refine ai rfl (ei _ (ai rfl ?_));simp only[simprocAttr, -Int.reduceNatCast',R0,h_34,eq_true hlt,hw,eq_true c11,eq_true w20l,eq_true c23,eq_false c28]
         ·dsimp only at ho
          cases ho;simp only[simprocAttr, -Int.reduceNatCast',R0,jb,h_7,eq_true hlt,hw,w10,eq_true c11,w13a,w13b,w13c,w14,w16,w17,w19,w20,eq_true w20l,w22,eq_true c23,wx24,w26a,w26b,w26c,w27,eq_false c28,wx29,w31];refine W.mono (l176_2 a0 v17_1 gt75 (ei _ (ai rfl ?_))) ?_
          ·simp only[simprocAttr, -Int.reduceNatCast',R0,h_7,eq_true hlt,hw,w10,eq_true c11,w13a,w13b,w13c,w14,w16,w17,w19,w20,eq_true w20l,w22,eq_true c23,wx24,w26a,w26b,w26c,w27,eq_false c28,wx29,w31]
          rintro _ e h ⟨rfl,hq⟩;simp only[simprocAttr, -Int.reduceNatCast',RR,RB];intro ht; subst ht;simp only[simprocAttr, -Int.reduceNatCast',RR,RB];exact ai rfl hq
        |false=>
         rw[if_neg wC]at ho;cases ho;simp only[simprocAttr, -Int.reduceNatCast',R0,jb,h_7,eq_true hlt,hw,w10,eq_true c11,w13a,w13b,w13c,w14,w16,w17,w19,w20,eq_true w20l,w22,eq_true c23,wx24,w26a,w26b,w26c,w27,eq_false c28,wx29,w31];intro ht; subst ht;simp only[simprocAttr, -Int.reduceNatCast',RR,RB];exact ai rfl (qd (by simp only[simprocAttr, -Int.reduceNatCast',R0,qe,p176,Rs.ev,qa,h_7,eq_true hlt,hw,w10,eq_true c11,w13a,w13b,w13c,w14,w16,w17,w19,w20,eq_true w20l,w22,eq_true c23,wx24,w26a,w26b,w26c,w27,eq_false c28,wx29,w31]))
      ·rw[if_neg c23]at ho
       obtain⟨x77,gx77,ho⟩:=bS ho;have wx77:=qx gx77;obtain⟨x78,gx78,ho⟩:=bS ho;have w79:ans A 196 [V.agg (qb a0),V.agg (arc .u8 8 (arP a0.Diff.val (n12*8) 8)),V.int .i64 x77,V.int .i64 (a0.Levels.val.getD n12 0)]=some (V.bool x78):=s196 a0 ⟨(arP a0.Diff.val (n12*8) 8)⟩ x77 (a0.Levels.val.getD n12 0) gx78;cases x78 with
       |true=>
        rw[if_pos rfl]at ho;obtain⟨t123,gt123,ho⟩:=bS ho;rcases t123 with _|r124
        ·dsimp only at ho
         simp only[simprocAttr, -Int.reduceNatCast',R0,jb,h_7,eq_true hlt,hw,w10,eq_true c11,w13a,w13b,w13c,w14,w16,w17,w19,w20,eq_true w20l,w22,eq_false c23,wx77,w79];refine W.mono (l176_2 a0 v17_1 gt123 (ei _ (ai rfl ?_))) ?_
         ·simp only[simprocAttr, -Int.reduceNatCast',R0,h_7,eq_true hlt,hw,w10,eq_true c11,w13a,w13b,w13c,w14,w16,w17,w19,w20,eq_true w20l,w22,eq_false c23,wx77,w79]
         rintro _ e _ ⟨rfl,k81,rfl,h_82⟩;cases ho;simp only[simprocAttr, -Int.reduceNatCast',R0,h_82,eq_true hlt,hw,eq_true c11,eq_true w20l,eq_false c23];refine ai rfl (ei _ (ai rfl ?_));simp only[simprocAttr, -Int.reduceNatCast',R0,h_82,eq_true hlt,hw,eq_true c11,eq_true w20l,eq_false c23]
        ·dsimp only at ho
         cases ho;simp only[simprocAttr, -Int.reduceNatCast',R0,jb,h_7,eq_true hlt,hw,w10,eq_true c11,w13a,w13b,w13c,w14,w16,w17,w19,w20,eq_true w20l,w22,eq_false c23,wx77,w79];refine W.mono (l176_2 a0 v17_1 gt123 (ei _ (ai rfl ?_))) ?_
         ·simp only[simprocAttr, -Int.reduceNatCast',R0,h_7,eq_true hlt,hw,w10,eq_true c11,w13a,w13b,w13c,w14,w16,w17,w19,w20,eq_true w20l,w22,eq_false c23,wx77,w79]
         rintro _ e h ⟨rfl,hq⟩;simp only[simprocAttr, -Int.reduceNatCast',RR,RB];intro ht; subst ht;simp only[simprocAttr, -Int.reduceNatCast',RR,RB];exact ai rfl hq
       |false=>
        rw[if_neg wC]at ho;cases ho;simp only[simprocAttr, -Int.reduceNatCast',R0,jb,h_7,eq_true hlt,hw,w10,eq_true c11,w13a,w13b,w13c,w14,w16,w17,w19,w20,eq_true w20l,w22,eq_false c23,wx77,w79];intro ht; subst ht;simp only[simprocAttr, -Int.reduceNatCast',RR,RB];exact ai rfl (qd (by simp only[simprocAttr, -Int.reduceNatCast',R0,qe,p176,Rs.ev,qa,h_7,eq_true hlt,hw,w10,eq_true c11,w13a,w13b,w13c,w14,w16,w17,w19,w20,eq_true w20l,w22,eq_false c23,wx77,w79]))
     |false=>
      rw[if_neg wC]at ho;cases ho;simp only[simprocAttr, -Int.reduceNatCast',R0,jb,h_7,eq_true hlt,hw,w10,eq_true c11,w13a,w13b,w13c,w14,w16,w17,w19,w20,eq_true w20l,w22];intro ht; subst ht;simp only[simprocAttr, -Int.reduceNatCast',RR,RB];exact ai rfl (qd (by simp only[simprocAttr, -Int.reduceNatCast',R0,qe,p176,Rs.ev,qa,h_7,eq_true hlt,hw,w10,eq_true c11,w13a,w13b,w13c,w14,w16,w17,w19,w20,eq_true w20l,w22]))
    |false=>
     rw[if_neg wC]at ho;cases ho;simp only[simprocAttr, -Int.reduceNatCast',R0,jb,h_7,eq_true hlt,hw,w10,eq_true c11,w13a,w13b,w13c,w14,w16,w17,w19];intro ht; subst ht;simp only[simprocAttr, -Int.reduceNatCast',RR,RB];exact ai rfl (qd (by simp only[simprocAttr, -Int.reduceNatCast',R0,qe,p176,Rs.ev,qa,h_7,eq_true hlt,hw,w10,eq_true c11,w13a,w13b,w13c,w14,w16,w17,w19]))
   |false=>
    rw[if_neg wC]at ho;cases ho;simp only[simprocAttr, -Int.reduceNatCast',R0,jb,h_7,eq_true hlt,hw,w10,eq_true c11,w13a,w13b,w13c,w14,w16];intro ht; subst ht;simp only[simprocAttr, -Int.reduceNatCast',RR,RB];exact ai rfl (qd (by simp only[simprocAttr, -Int.reduceNatCast',R0,qe,p176,Rs.ev,qa,h_7,eq_true hlt,hw,w10,eq_true c11,w13a,w13b,w13c,w14,w16]))
  ·rw[if_neg c11]at ho
   obtain⟨n125,gn125,ho⟩:=bS ho;obtain⟨w126a,w126b,w126c,w126d⟩:=qU gn125;have w127:qf none (List.drop n125 (List.drop 2 (qb a0)))=some (V.int .i64 (a0.Degrees.val.getD n125 0)):=by simp only[wH]; exact qm (i:=n125) (by omega) (by omega)
   by_cases c128:(a0.Degrees.val.getD n125 0)=0
   ·rw[if_pos c128]at ho
    have w129:qf none (List.drop n125 (List.drop 10 (qb a0)))=some (V.int .i64 (a0.Levels.val.getD n125 0)):=by simp only[wH]; exact qv (i:=n125) (by omega) (by omega)
    by_cases c130:(a0.Levels.val.getD n125 0)=0
    ·rw[if_pos c130]at ho
     have w131:List.take 8 (List.drop (n125*8) (List.drop 18 (qb a0)))=arc .u8 8 (arP a0.Diff.val (n125*8) 8):=by simp only[wH]; exact qH (i:=n125*8) (m:=8) (by omega) (by omega)
     have w131l:8≤List.length (List.drop (n125*8) (List.drop 18 (qb a0))):=by simp only[wQ,qj,qy]; omega
     obtain⟨x132,gx132,ho⟩:=bS ho;have w133:eqSV true 12 (Lay.arr 8 8 1 (Lay.int Go.IntKind.u8)) (V.agg (arc .u8 8 (arP a0.Diff.val (n125*8) 8))) (V.agg (arc .u8 8 []))=some (V.bool (!x132)):=zE gx132;cases x132 with
     |true=>
      rw[if_pos rfl]at ho;obtain⟨x134,gx134,ho⟩:=bS ho;have w135:ans A 56 [V.int .i64 (a0.Degrees.val.getD n125 0),V.int .i64 0,V.int .i64 5]=some (V.bool x134):=s56 (a0.Degrees.val.getD n125 0) 0 5 gx134;cases x134 with
      |true=>
       rw[if_pos rfl]at ho;obtain⟨x136,gx136,ho⟩:=bS ho;have w137:ans A 56 [V.int .i64 (a0.Levels.val.getD n125 0),V.int .i64 0,V.int .i64 5]=some (V.bool x136):=s56 (a0.Levels.val.getD n125 0) 0 5 gx136;cases x136 with
       |true=>
        rw[if_pos rfl]at ho;obtain⟨x138,gx138,ho⟩:=bS ho;have w139:ans A 195 [V.agg (qb a0),V.agg (arc .u8 8 (arP a0.Diff.val (n125*8) 8))]=some (V.bool x138):=s195 a0 ⟨(arP a0.Diff.val (n125*8) 8)⟩ gx138;cases x138 with
        |true=>
         rw[if_pos rfl]at ho;obtain⟨t183,gt183,ho⟩:=bS ho;rcases t183 with _|r184
         ·dsimp only at ho
          simp only[simprocAttr, -Int.reduceNatCast',R0,jb,h_7,eq_true hlt,hw,w10,eq_false c11,w126a,w126b,w126c,w127,eq_true c128,w129,eq_true c130,w131,eq_true w131l,w133,w135,w137,w139];refine W.mono (l176_2 a0 v17_1 gt183 (ei _ (ai rfl ?_))) ?_
          ·simp only[simprocAttr, -Int.reduceNatCast',R0,h_7,eq_true hlt,hw,w10,eq_false c11,w126a,w126b,w126c,w127,eq_true c128,w129,eq_true c130,w131,eq_true w131l,w133,w135,w137,w139]
          rintro _ e _ ⟨rfl,k141,rfl,h_142⟩;cases ho;simp only[simprocAttr, -Int.reduceNatCast',R0,h_142,eq_true hlt,hw,eq_false c11,eq_true c128,eq_true c130,eq_true w131l];refine ai rfl (ei _ (ai rfl ?_));simp only[simprocAttr, -Int.reduceNatCast',R0,h_142,eq_true hlt,hw,eq_false c11,eq_true c128,eq_true c130,eq_true w131l]
         ·dsimp only at ho
          cases ho;simp only[simprocAttr, -Int.reduceNatCast',R0,jb,h_7,eq_true hlt,hw,w10,eq_false c11,w126a,w126b,w126c,w127,eq_true c128,w129,eq_true c130,w131,eq_true w131l,w133,w135,w137,w139];refine W.mono (l176_2 a0 v17_1 gt183 (ei _ (ai rfl ?_))) ?_
          ·simp only[simprocAttr, -Int.reduceNatCast',R0,h_7,eq_true hlt,hw,w10,eq_false c11,w126a,w126b,w126c,w127,eq_true c128,w129,eq_true c130,w131,eq_true w131l,w133,w135,w137,w139]
          rintro _ e h ⟨rfl,hq⟩;simp only[simprocAttr, -Int.reduceNatCast',RR,RB];intro ht; subst ht;simp only[simprocAttr, -Int.reduceNatCast',RR,RB];exact ai rfl hq
        |false=>
         rw[if_neg wC]at ho;cases ho;simp only[simprocAttr, -Int.reduceNatCast',R0,jb,h_7,eq_true hlt,hw,w10,eq_false c11,w126a,w126b,w126c,w127,eq_true c128,w129,eq_true c130,w131,eq_true w131l,w133,w135,w137,w139];intro ht; subst ht;simp only[simprocAttr, -Int.reduceNatCast',RR,RB];exact ai rfl (qd (by simp only[simprocAttr, -Int.reduceNatCast',R0,qe,p176,Rs.ev,qa,h_7,eq_true hlt,hw,w10,eq_false c11,w126a,w126b,w126c,w127,eq_true c128,w129,eq_true c130,w131,eq_true w131l,w133,w135,w137,w139]))
       |false=>
        rw[if_neg wC]at ho;cases ho;simp only[simprocAttr, -Int.reduceNatCast',R0,jb,h_7,eq_true hlt,hw,w10,eq_false c11,w126a,w126b,w126c,w127,eq_true c128,w129,eq_true c130,w131,eq_true w131l,w133,w135,w137];intro ht; subst ht;simp only[simprocAttr, -Int.reduceNatCast',RR,RB];exact ai rfl (qd (by simp only[simprocAttr, -Int.reduceNatCast',R0,qe,p176,Rs.ev,qa,h_7,eq_true hlt,hw,w10,eq_false c11,w126a,w126b,w126c,w127,eq_true c128,w129,eq_true c130,w131,eq_true w131l,w133,w135,w137]))
      |false=>
       rw[if_neg wC]at ho;cases ho;simp only[simprocAttr, -Int.reduceNatCast',R0,jb,h_7,eq_true hlt,hw,w10,eq_false c11,w126a,w126b,w126c,w127,eq_true c128,w129,eq_true c130,w131,eq_true w131l,w133,w135];intro ht; subst ht;simp only[simprocAttr, -Int.reduceNatCast',RR,RB];exact ai rfl (qd (by simp only[simprocAttr, -Int.reduceNatCast',R0,qe,p176,Rs.ev,qa,h_7,eq_true hlt,hw,w10,eq_false c11,w126a,w126b,w126c,w127,eq_true c128,w129,eq_true c130,w131,eq_true w131l,w133,w135]))
     |false=>
      rw[if_neg wC]at ho;cases ho;simp only[simprocAttr, -Int.reduceNatCast',R0,jb,h_7,eq_true hlt,hw,w10,eq_false c11,w126a,w126b,w126c,w127,eq_true c128,w129,eq_true c130,w131,eq_true w131l,w133];intro ht; subst ht;simp only[simprocAttr, -Int.reduceNatCast',RR,RB];exact ai rfl (qd (by simp only[simprocAttr, -Int.reduceNatCast',R0,qe,p176,Rs.ev,qa,h_7,eq_true hlt,hw,w10,eq_false c11,w126a,w126b,w126c,w127,eq_true c128,w129,eq_true c130,w131,eq_true w131l,w133]))
    ·rw[if_neg c130]at ho
     cases ho;simp only[simprocAttr, -Int.reduceNatCast',R0,jb,h_7,eq_true hlt,hw,w10,eq_false c11,w126a,w126b,w126c,w127,eq_true c128,w129,eq_false c130];intro ht; subst ht;simp only[simprocAttr, -Int.reduceNatCast',RR,RB];exact ai rfl (qd (by simp only[simprocAttr, -Int.reduceNatCast',R0,qe,p176,Rs.ev,qa,h_7,eq_true hlt,hw,w10,eq_false c11,w126a,w126b,w126c,w127,eq_true c128,w129,eq_false c130]))
   ·rw[if_neg c128]at ho
    cases ho;simp only[simprocAttr, -Int.reduceNatCast',R0,jb,h_7,eq_true hlt,hw,w10,eq_false c11,w126a,w126b,w126c,w127,eq_false c128];intro ht; subst ht;simp only[simprocAttr, -Int.reduceNatCast',RR,RB];exact ai rfl (qd (by simp only[simprocAttr, -Int.reduceNatCast',R0,qe,p176,Rs.ev,qa,h_7,eq_true hlt,hw,w10,eq_false c11,w126a,w126b,w126c,w127,eq_false c128]))
 ·rintro v17_1 _ e h ⟨k8,rfl,h_7⟩ hge t1 ho
  unfold F176_1_D at ho;cases ho;simp only[simprocAttr, -Int.reduceNatCast',R0,jb,h_7,eq_false hge];intro ht; subst ht;refine ai rfl (ei _ (ai rfl ?_));simp only[simprocAttr, -Int.reduceNatCast',R0,h_7,eq_false hge]
theorem s176(a0:GDga){r:Bool}(hF:F176 a0=some r):ans A 176 [V.agg (qb a0)]=some (Enc.enc r):=by
 refine qu (f:=p176) rfl rfl rfl fun e hl he=>?_;have h0_0:e.at 0=V.agg (qb a0):=he 0 _ rfl;have hl_0:e.length=170:=hl;clear he hl;have h_0:=ai hl_0 h0_0;show W A b176 e ⟨[],0⟩ _;unfold F176 at hF;have w1:qf none (qb a0)=some (V.int .i64 a0.Prime):=qA (a:=0) rfl;obtain⟨x2,gx2,hF⟩:=bS hF;have w3:=s67 a0.Prime gx2;cases x2 with
 |true=>
  rw[if_pos rfl]at hF;have w4:qf none (List.drop 1 (qb a0))=some (V.int .i64 a0.Size):=qk rfl;obtain⟨x5,gx5,hF⟩:=bS hF;have w6:=s56 a0.Size 1 8 gx5;cases x5 with
  |true=>
   rw[if_pos rfl]at hF;obtain⟨t185,gt185,hF⟩:=bS hF;rcases t185 with _|r189
   ·dsimp only at hF
    simp only[simprocAttr,R0,b176, *];refine W.mono (l176_1 a0 gt185 (ei _ (ai rfl ?_))) ?_
    ·simp only[simprocAttr,R0, *]
    rintro _ e _ ⟨rfl,k8,rfl,h_9⟩;have w186:qf none (List.drop 2 (qb a0))=some (V.int .i64 (a0.Degrees.val.getD 0 0)):=qm (i:=0) (by omega) (by omega);by_cases c187:(a0.Degrees.val.getD 0 0)=0
    ·rw[if_pos c187]at hF
     have w188:qf none (List.drop 10 (qb a0))=some (V.int .i64 (a0.Levels.val.getD 0 0)):=qv (i:=0) (by omega) (by omega);cases hF;simp only[simprocAttr,R0,(eq_true (show(0:Int) < ((8:Nat):Int) from by decide)), *];exact qd (by simp only[simprocAttr,R0,qe,p176,Rs.ev,qa,(eq_true (show(0:Int) < ((8:Nat):Int) from by decide)), *])
    ·rw[if_neg c187]at hF
     cases hF;simp only[simprocAttr,R0,(eq_true (show(0:Int) < ((8:Nat):Int) from by decide)), *];exact qd (by simp only[simprocAttr,R0,qe,p176,Rs.ev,qa,(eq_true (show(0:Int) < ((8:Nat):Int) from by decide)), *])
   ·dsimp only at hF
    cases hF;simp only[simprocAttr,R0,b176, *];refine W.mono (l176_1 a0 gt185 (ei _ (ai rfl ?_))) ?_
    ·simp only[simprocAttr,R0, *]
    rintro _ e h ⟨rfl,hq⟩;simp only[simprocAttr,RR,RB];exact hq
  |false=>
   rw[if_neg wC]at hF;cases hF;simp only[simprocAttr,R0,b176, *];exact qd (by simp only[simprocAttr,R0,qe,p176,Rs.ev,qa, *])
 |false=>
  rw[if_neg wC]at hF;cases hF;simp only[simprocAttr,R0,b176, *];exact qd (by simp only[simprocAttr,R0,qe,p176,Rs.ev,qa, *])
def F177_2_B(a0:GDga)(a1:Ar .u8 8)(a2:Ar .u8 8)(v14_1:Int)(n7:Nat)(v19_2:Int)(o4_2:(List Int)):Option (((List Int))⊕((List Int))):=
 (ixI 8 v19_2).bind fun n14=>
if(a1.val.getD n7 0)=0 then
 some (.inl o4_2)
else
 if(a2.val.getD n14 0)=0 then
  some (.inl o4_2)
 else
  (ixI 8 v14_1).bind fun n20=>
  (chk (a1.val.getD n7 0)).bind fun x23=>
  (chk (a2.val.getD n14 0)).bind fun x24=>
  (chk (x23*x24)).bind fun x25=>
  (F70 a0 ⟨o4_2⟩ ⟨(arP a0.Table.val (n20*64+n14*8) 8)⟩ x25).bind fun x26=>
  some (.inl x26.val)
def F177_2_D(a0:GDga)(a1:Ar .u8 8)(a2:Ar .u8 8)(v14_1:Int)(n7:Nat)(v19_2:Int)(o4_2:(List Int)):Option ((List Int)):=
 some o4_2
def F177_1_B(a0:GDga)(a1:Ar .u8 8)(a2:Ar .u8 8)(v14_1:Int)(o4_1:(List Int)):Option (((List Int))⊕((List Int))):=
 (ixI 8 v14_1).bind fun n7=>
(forR 0 8 (F177_2_B a0 a1 a2 v14_1 n7) (F177_2_D a0 a1 a2 v14_1 n7) o4_1).bind fun zo4_2=>
some (.inl zo4_2)
def F177_1_D(a0:GDga)(a1:Ar .u8 8)(a2:Ar .u8 8)(v14_1:Int)(o4_1:(List Int)):Option ((List Int)):=
 some o4_1
def F177(a0:GDga)(a1:Ar .u8 8)(a2:Ar .u8 8):Option (Ar .u8 8):=
 (forR 0 8 (F177_1_B a0 a1 a2) (F177_1_D a0 a1 a2) ([]:(List Int))).bind fun zo4_1=>
 some ⟨zo4_1⟩
def I177_2(a0:GDga)(a1:Ar .u8 8)(a2:Ar .u8 8)(v14_1:Int)(n7:Nat)(v19_2:Int)(o4_2:(List Int))(e:Env)(h:Heap):Prop:=
 ∃k12:Nat,h=⟨[(0,none),(0,none),(0,none),(3,some (arc .u8 8 [])),(4,some (arc .u8 8 o4_2))],k12⟩∧e.length=46∧e.at 3=V.iptr (qb a0)∧e.at 5=V.iptr (arc .u8 8 a2.val)∧e.at 6=V.ptr 3 3 0∧e.at 7=V.ptr 4 4 0∧e.at 8=V.int .i64 v14_1∧e.at 9=V.int .u8 (a1.val.getD n7 0)∧e.at 13=V.agg (arc .u8 8 a1.val)∧e.at 14=V.int .i64 v14_1∧e.at 18=V.agg (arc .u8 8 a2.val)∧e.at 19=V.int .i64 v19_2
def P177_2(a0:GDga)(a1:Ar .u8 8)(a2:Ar .u8 8)(v14_1:Int)(n7:Nat)(zo4_2:(List Int))(x:Ex)(e:Env)(h:Heap):Prop:=
 x= .normal∧∃k12:Nat,h=⟨[(0,none),(0,none),(0,none),(3,some (arc .u8 8 [])),(4,some (arc .u8 8 zo4_2))],k12⟩∧e.length=46∧e.at 3=V.iptr (qb a0)∧e.at 5=V.iptr (arc .u8 8 a2.val)∧e.at 6=V.ptr 3 3 0∧e.at 7=V.ptr 4 4 0∧e.at 13=V.agg (arc .u8 8 a1.val)∧e.at 14=V.int .i64 v14_1
theorem l177_2(a0:GDga)(a1:Ar .u8 8)(a2:Ar .u8 8)(v14_1:Int)(n7:Nat){lo:Int}{s:(List Int)}{t:(List Int)}(hF:forR lo 8 (F177_2_B a0 a1 a2 v14_1 n7) (F177_2_D a0 a1 a2 v14_1 n7) s=some t){e:Env}{h:Heap}(hI:I177_2 a0 a1 a2 v14_1 n7 lo s e h):W A c177_2 e h (P177_2 a0 a1 a2 v14_1 n7 t):=by
 show W A (.block 2 (.loop false b177_2)) e h _;rw[qi];refine qr hF 5 (by obtain⟨_,rfl,_⟩:=hI; rfl) (I177_2 a0 a1 a2 v14_1 n7) hI ?_ ?_
 ·rintro v19_2 o4_2 e h ⟨k12,rfl,h_11⟩ hlt hw o ho
  unfold F177_2_B at ho;obtain⟨n14,gn14,ho⟩:=bS ho;obtain⟨w15a,w15b,w15c,w15d⟩:=qU gn14;have w16:qf none (List.drop n14 (arc .u8 8 a2.val))=some (V.int .u8 (a2.val.getD n14 0)):=zo (i:=n14) (by omega) (by omega);by_cases c17:(a1.val.getD n7 0)=0
  ·rw[if_pos c17]at ho
   cases ho;simp only[simprocAttr, -Int.reduceNatCast',R0,b177_2, *];refine ai rfl (ei _ (ai rfl ?_));simp only[simprocAttr, -Int.reduceNatCast',R0, *]
  ·rw[if_neg c17]at ho
   by_cases c18:(a2.val.getD n14 0)=0
   ·rw[if_pos c18]at ho
    cases ho;simp only[simprocAttr, -Int.reduceNatCast',R0,b177_2, *];refine ai rfl (ei _ (ai rfl ?_));simp only[simprocAttr, -Int.reduceNatCast',R0, *]
   ·rw[if_neg c18]at ho
    obtain⟨n20,gn20,ho⟩:=bS ho;obtain⟨w21a,w21b,w21c,w21d⟩:=qU gn20;have w22:List.take 8 (List.drop (n14*8) (List.drop (n20*64) (List.drop 82 (qb a0))))=arc .u8 8 (arP a0.Table.val (n20*64+n14*8) 8):=by simp only[wH]; exact qG (i:=n20*64+n14*8) (m:=8) (by omega) (by omega)
    have w22l:8≤List.length (List.drop (n14*8) (List.drop (n20*64) (List.drop 82 (qb a0)))):=by simp only[wQ,qj,qy]; omega
    obtain⟨x23,gx23,ho⟩:=bS ho;have wx23:=qx gx23;obtain⟨x24,gx24,ho⟩:=bS ho;have wx24:=qx gx24;obtain⟨x25,gx25,ho⟩:=bS ho;have wx25:=qx gx25;obtain⟨x26,gx26,ho⟩:=bS ho;have w27:ans A 70 [V.agg (qb a0),V.agg (arc .u8 8 o4_2),V.agg (arc .u8 8 (arP a0.Table.val (n20*64+n14*8) 8)),V.int .i64 x25]=some (V.agg (arc .u8 8 x26.val)):=s70 a0 ⟨o4_2⟩ ⟨(arP a0.Table.val (n20*64+n14*8) 8)⟩ x25 gx26;have w29:List.drop 8 (arc .u8 8 o4_2)=[]:=wI (by rw[qj]; exact wG _);cases ho;simp only[simprocAttr, -Int.reduceNatCast',R0,b177_2,wB, *];refine ai rfl (ei _ (ai rfl ?_));simp only[simprocAttr, -Int.reduceNatCast',R0,wB, *]
 ·rintro v19_2 o4_2 e h ⟨k12,rfl,h_11⟩ hge t1 ho
  unfold F177_2_D at ho;cases ho;simp only[simprocAttr, -Int.reduceNatCast',R0,b177_2, *];intro ht; subst ht;refine ai rfl (ei _ (ai rfl ?_));simp only[simprocAttr, -Int.reduceNatCast',R0, *]
def I177_1(a0:GDga)(a1:Ar .u8 8)(a2:Ar .u8 8)(v14_1:Int)(o4_1:(List Int))(e:Env)(h:Heap):Prop:=
 ∃k5:Nat,h=⟨[(0,none),(0,none),(0,none),(3,some (arc .u8 8 [])),(4,some (arc .u8 8 o4_1))],k5⟩∧e.length=46∧e.at 3=V.iptr (qb a0)∧e.at 5=V.iptr (arc .u8 8 a2.val)∧e.at 6=V.ptr 3 3 0∧e.at 7=V.ptr 4 4 0∧e.at 13=V.agg (arc .u8 8 a1.val)∧e.at 14=V.int .i64 v14_1
def P177_1(a0:GDga)(a1:Ar .u8 8)(a2:Ar .u8 8)(zo4_1:(List Int))(x:Ex)(e:Env)(h:Heap):Prop:=
 x= .normal∧∃k5:Nat,h=⟨[(0,none),(0,none),(0,none),(3,some (arc .u8 8 [])),(4,some (arc .u8 8 zo4_1))],k5⟩∧e.length=46∧e.at 6=V.ptr 3 3 0∧e.at 7=V.ptr 4 4 0
theorem l177_1(a0:GDga)(a1:Ar .u8 8)(a2:Ar .u8 8){lo:Int}{s:(List Int)}{t:(List Int)}(hF:forR lo 8 (F177_1_B a0 a1 a2) (F177_1_D a0 a1 a2) s=some t){e:Env}{h:Heap}(hI:I177_1 a0 a1 a2 lo s e h):W A c177_1 e h (P177_1 a0 a1 a2 t):=by
 show W A (.block 0 (.loop false b177_1)) e h _;rw[qi];refine qr hF 5 (by obtain⟨_,rfl,_⟩:=hI; rfl) (I177_1 a0 a1 a2) hI ?_ ?_
 ·rintro v14_1 o4_1 e h ⟨k5,rfl,h_4⟩ hlt hw o ho
  unfold F177_1_B at ho;obtain⟨n7,gn7,ho⟩:=bS ho;obtain⟨w8a,w8b,w8c,w8d⟩:=qU gn7;have w9:qf none (List.drop n7 (arc .u8 8 a1.val))=some (V.int .u8 (a1.val.getD n7 0)):=zo (i:=n7) (by omega) (by omega);obtain⟨zo4_2,gt30,ho⟩:=bS ho;simp only[simprocAttr,R0,b177_1, *];refine W.mono (l177_2 a0 a1 a2 v14_1 n7 gt30 (ei _ (ai rfl ?_))) ?_
  ·simp only[simprocAttr,R0, *]
  rintro _ e _ ⟨rfl,k12,rfl,h_13⟩;cases ho;simp only[simprocAttr,R0, *];refine ai rfl (ei _ (ai rfl ?_));simp only[simprocAttr,R0, *]
 ·rintro v14_1 o4_1 e h ⟨k5,rfl,h_4⟩ hge t1 ho
  unfold F177_1_D at ho;cases ho;simp only[simprocAttr,R0,b177_1, *];intro ht; subst ht;refine ai rfl (ei _ (ai rfl ?_));simp only[simprocAttr,R0, *]
theorem s177(a0:GDga)(a1:Ar .u8 8)(a2:Ar .u8 8){r:Ar .u8 8}(hF:F177 a0 a1 a2=some r):ans A 177 [V.agg (qb a0),V.agg (arc .u8 8 a1.val),V.agg (arc .u8 8 a2.val)]=some (Enc.enc r):=by
 refine qu (f:=p177) rfl rfl rfl fun e hl he=>?_;have h0_0:e.at 0=V.agg (qb a0):=he 0 _ rfl;have h1_0:e.at 1=V.agg (arc .u8 8 a1.val):=he 1 _ rfl;have h2_0:e.at 2=V.agg (arc .u8 8 a2.val):=he 2 _ rfl;have hl_0:e.length=46:=hl;clear he hl;show W A b177 e ⟨[],0⟩ _;unfold F177 at hF;have w2:List.drop 8 (arc .u8 8 [])=[]:=wI (by rw[qj]; exact wG _);obtain⟨zo4_1,gt31,hF⟩:=bS hF;simp only[simprocAttr,R0,b177,wB, *];refine W.mono (l177_1 a0 a1 a2 gt31 (ei _ (ai rfl ?_))) ?_
 ·simp only[simprocAttr,R0,wB, *]
 rintro _ e _ ⟨rfl,k5,rfl,h_6⟩;have w34:List.drop 8 (arc .u8 8 [])=[]:=wI (by rw[qj]; exact wG _);cases hF;simp only[simprocAttr,R0,wB, *];exact qd (by simp only[simprocAttr,R0,qe,p177,Rs.ev,qa,wB, *])
def F178_1_B(a0:GDga)(a1:Ar .u8 8)(v10_1:Int)(o3_1:(List Int)):Option (((List Int))⊕((List Int))):=
 (ixI 8 v10_1).bind fun n7=>
(chk (a1.val.getD n7 0)).bind fun x12=>
(F70 a0 ⟨o3_1⟩ ⟨(arP a0.Diff.val (n7*8) 8)⟩ x12).bind fun x13=>
some (.inl x13.val)
def F178_1_D(a0:GDga)(a1:Ar .u8 8)(v10_1:Int)(o3_1:(List Int)):Option ((List Int)):=
 some o3_1
def F178(a0:GDga)(a1:Ar .u8 8):Option (Ar .u8 8):=
 (forR 0 8 (F178_1_B a0 a1) (F178_1_D a0 a1) ([]:(List Int))).bind fun zo3_1=>
 some ⟨zo3_1⟩
def I178_1(a0:GDga)(a1:Ar .u8 8)(v10_1:Int)(o3_1:(List Int))(e:Env)(h:Heap):Prop:=
 ∃k5:Nat,h=⟨[(0,none),(0,none),(2,some (arc .u8 8 [])),(3,some (arc .u8 8 o3_1))],k5⟩∧e.length=25∧e.at 2=V.iptr (qb a0)∧e.at 4=V.ptr 2 2 0∧e.at 5=V.ptr 3 3 0∧e.at 9=V.agg (arc .u8 8 a1.val)∧e.at 10=V.int .i64 v10_1
def P178_1(a0:GDga)(a1:Ar .u8 8)(zo3_1:(List Int))(x:Ex)(e:Env)(h:Heap):Prop:=
 x= .normal∧∃k5:Nat,h=⟨[(0,none),(0,none),(2,some (arc .u8 8 [])),(3,some (arc .u8 8 zo3_1))],k5⟩∧e.length=25∧e.at 4=V.ptr 2 2 0∧e.at 5=V.ptr 3 3 0
theorem l178_1(a0:GDga)(a1:Ar .u8 8){lo:Int}{s:(List Int)}{t:(List Int)}(hF:forR lo 8 (F178_1_B a0 a1) (F178_1_D a0 a1) s=some t){e:Env}{h:Heap}(hI:I178_1 a0 a1 lo s e h):W A c178_1 e h (P178_1 a0 a1 t):=by
 show W A (.block 0 (.loop false b178_1)) e h _;rw[qi];refine qr hF 4 (by obtain⟨_,rfl,_⟩:=hI; rfl) (I178_1 a0 a1) hI ?_ ?_
 ·rintro v10_1 o3_1 e h ⟨k5,rfl,h_4⟩ hlt hw o ho
  unfold F178_1_B at ho;obtain⟨n7,gn7,ho⟩:=bS ho;obtain⟨w8a,w8b,w8c,w8d⟩:=qU gn7;have w9:qf none (List.drop n7 (arc .u8 8 a1.val))=some (V.int .u8 (a1.val.getD n7 0)):=zo (i:=n7) (by omega) (by omega);have w11:List.take 8 (List.drop (n7*8) (List.drop 18 (qb a0)))=arc .u8 8 (arP a0.Diff.val (n7*8) 8):=by simp only[wH]; exact qH (i:=n7*8) (m:=8) (by omega) (by omega)
  have w11l:8≤List.length (List.drop (n7*8) (List.drop 18 (qb a0))):=by simp only[wQ,qj,qy]; omega
  obtain⟨x12,gx12,ho⟩:=bS ho;have wx12:=qx gx12;obtain⟨x13,gx13,ho⟩:=bS ho;have w14:ans A 70 [V.agg (qb a0),V.agg (arc .u8 8 o3_1),V.agg (arc .u8 8 (arP a0.Diff.val (n7*8) 8)),V.int .i64 x12]=some (V.agg (arc .u8 8 x13.val)):=s70 a0 ⟨o3_1⟩ ⟨(arP a0.Diff.val (n7*8) 8)⟩ x12 gx13;have w16:List.drop 8 (arc .u8 8 o3_1)=[]:=wI (by rw[qj]; exact wG _);cases ho;simp only[simprocAttr,R0,b178_1,wB, *];refine ai rfl (ei _ (ai rfl ?_));simp only[simprocAttr,R0,wB, *]
 ·rintro v10_1 o3_1 e h ⟨k5,rfl,h_4⟩ hge t1 ho
  unfold F178_1_D at ho;cases ho;simp only[simprocAttr,R0,b178_1, *];intro ht; subst ht;refine ai rfl (ei _ (ai rfl ?_));simp only[simprocAttr,R0, *]
theorem s178(a0:GDga)(a1:Ar .u8 8){r:Ar .u8 8}(hF:F178 a0 a1=some r):ans A 178 [V.agg (qb a0),V.agg (arc .u8 8 a1.val)]=some (Enc.enc r):=by
 refine qu (f:=p178) rfl rfl rfl fun e hl he=>?_;have h0_0:e.at 0=V.agg (qb a0):=he 0 _ rfl;have h1_0:e.at 1=V.agg (arc .u8 8 a1.val):=he 1 _ rfl;have hl_0:e.length=25:=hl;clear he hl;show W A b178 e ⟨[],0⟩ _;unfold F178 at hF;have w2:List.drop 8 (arc .u8 8 [])=[]:=wI (by rw[qj]; exact wG _);obtain⟨zo3_1,gt17,hF⟩:=bS hF;simp only[simprocAttr,R0,b178,wB, *];refine W.mono (l178_1 a0 a1 gt17 (ei _ (ai rfl ?_))) ?_
 ·simp only[simprocAttr,R0,wB, *]
 rintro _ e _ ⟨rfl,k5,rfl,h_6⟩;have w20:List.drop 8 (arc .u8 8 [])=[]:=wI (by rw[qj]; exact wG _);cases hF;simp only[simprocAttr,R0,wB, *];exact qd (by simp only[simprocAttr,R0,qe,p178,Rs.ev,qa,wB, *])
def F179(a0:Int):Option Int:=
 (remI a0 2).bind fun x1=>
 (chk (x1*2)).bind fun x3=>
 (chk (1 - x3)).bind fun x4=>
 some x4
theorem s179(a0:Int){r:Int}(hF:F179 a0=some r):ans A 179 [V.int .i64 a0]=some (Enc.enc r):=by
 refine qu (f:=p179) rfl rfl rfl fun e hl he=>?_;have h0_0:e.at 0=V.int .i64 a0:=he 0 _ rfl;have hl_0:e.length=7:=hl;clear he hl;show W A b179 e ⟨[],0⟩ _;unfold F179 at hF;obtain⟨x1,gx1,hF⟩:=bS hF;obtain⟨w2a,w2b⟩:=rem_w gx1;obtain⟨x3,gx3,hF⟩:=bS hF;have wx3:=qx gx3;obtain⟨x4,gx4,hF⟩:=bS hF;have wx4:=qx gx4;cases hF;simp only[simprocAttr,R0,b179, *];exact qd (by simp only[simprocAttr,R0,qe,p179,Rs.ev,qa, *])
def F157_3_B(a0:GDga)(v15_1:Int)(x7:Ar .u8 8)(v49_2:Int)(x36:Ar .u8 8)(x45:Ar .u8 8)(x60:Ar .u8 8)(v89_3:Int)(s:Unit):Option ((Unit)⊕((Unit)⊕Bool)):=
 (ixI 8 v15_1).bind fun n72=>
(ixI 8 v49_2).bind fun n74=>
(F69 a0 v89_3).bind fun x77=>
(F177 a0 ⟨(arP a0.Table.val (n72*64+n74*8) 8)⟩ x77).bind fun x79=>
(ixI 8 v89_3).bind fun n82=>
(F177 a0 x7 ⟨(arP a0.Table.val (n74*64+n82*8) 8)⟩).bind fun x85=>
(arE .u8 8 x79.val x85.val).bind fun x87=>
if x87=true then
 some (.inl ())
else
 some (.inr (.inr false))
def F157_3_D(a0:GDga)(v15_1:Int)(x7:Ar .u8 8)(v49_2:Int)(x36:Ar .u8 8)(x45:Ar .u8 8)(x60:Ar .u8 8)(v89_3:Int)(s:Unit):Option ((Unit)⊕Bool):=
 some (.inl ())
def F157_2_B(a0:GDga)(v15_1:Int)(x7:Ar .u8 8)(v49_2:Int)(s:Unit):Option ((Unit)⊕((Unit)⊕Bool)):=
 (F69 a0 v49_2).bind fun x36=>
(ixI 8 v15_1).bind fun n40=>
(ixI 8 v49_2).bind fun n42=>
(F178 a0 ⟨(arP a0.Table.val (n40*64+n42*8) 8)⟩).bind fun x45=>
(F177 a0 ⟨(arP a0.Diff.val (n40*8) 8)⟩ x36).bind fun x51=>
(F177 a0 x7 ⟨(arP a0.Diff.val (n42*8) 8)⟩).bind fun x55=>
(F179 (a0.Degrees.val.getD n40 0)).bind fun x58=>
(F70 a0 x51 x55 x58).bind fun x60=>
(arE .u8 8 x45.val x60.val).bind fun x66=>
if x66=true then
 (forR 0 a0.Size (F157_3_B a0 v15_1 x7 v49_2 x36 x45 x60) (F157_3_D a0 v15_1 x7 v49_2 x36 x45 x60) ()).bind fun t89=> match t89 with
  | .inl _=>
   some (.inl ())
  | .inr r90=> some (.inr (.inr r90))
else
 some (.inr (.inr false))
def F157_2_D(a0:GDga)(v15_1:Int)(x7:Ar .u8 8)(v49_2:Int)(s:Unit):Option ((Unit)⊕Bool):=
 some (.inl ())
def F157_1_B(a0:GDga)(v15_1:Int)(s:Unit):Option ((Unit)⊕((Unit)⊕Bool)):=
 (F69 a0 v15_1).bind fun x7=>
(F69 a0 0).bind fun x11=>
(F177 a0 x11 x7).bind fun x14=>
(arE .u8 8 x14.val x7.val).bind fun x17=>
if x17=true then
 (F177 a0 x7 x11).bind fun x20=>
 (arE .u8 8 x20.val x7.val).bind fun x23=>
 if x23=true then
  (ixI 8 v15_1).bind fun n25=>
  (F178 a0 ⟨(arP a0.Diff.val (n25*8) 8)⟩).bind fun x28=>
  (arE .u8 8 x28.val []).bind fun x30=>
  if x30=true then
   (forR 0 a0.Size (F157_2_B a0 v15_1 x7) (F157_2_D a0 v15_1 x7) ()).bind fun t91=> match t91 with
    | .inl _=>
     some (.inl ())
    | .inr r92=> some (.inr (.inr r92))
  else
   some (.inr (.inr false))
 else
  some (.inr (.inr false))
else
 some (.inr (.inr false))
def F157_1_D(a0:GDga)(v15_1:Int)(s:Unit):Option ((Unit)⊕Bool):=
 some (.inl ())
def F157(a0:GDga):Option Bool:=
 (F176 a0).bind fun x1=>
 if x1=true then
  (forR 0 a0.Size (F157_1_B a0) (F157_1_D a0) ()).bind fun t93=> match t93 with
   | .inl _=>
    some true
   | .inr r94=> some r94
 else
  some false
def I157_3(a0:GDga)(v15_1:Int)(x7:Ar .u8 8)(v49_2:Int)(x36:Ar .u8 8)(x45:Ar .u8 8)(x60:Ar .u8 8)(k5 k34:Nat)(v89_3:Int)(s:Unit)(e:Env)(h:Heap):Prop:=
 ∃k70:Nat,h=⟨[(0,none),(k5,some (arc .u8 8 x7.val)),(k34,some (arc .u8 8 x36.val)),((k34+1),some (arc .u8 8 x45.val)),((k34+2),some (arc .u8 8 x60.val))],k70⟩∧e.length=116∧e.at 1=V.iptr (qb a0)∧e.at 3=V.int .i64 v15_1∧e.at 4=V.ptr 1 k5 0∧e.at 5=V.int .i64 v49_2∧e.at 14=V.int .i64 a0.Size∧e.at 15=V.int .i64 v15_1∧e.at 48=V.int .i64 a0.Size∧e.at 49=V.int .i64 v49_2∧e.at 88=V.int .i64 a0.Size∧e.at 89=V.int .i64 v89_3
def P157_3(a0:GDga)(v15_1:Int)(x7:Ar .u8 8)(v49_2:Int)(x36:Ar .u8 8)(x45:Ar .u8 8)(x60:Ar .u8 8)(k5 k34:Nat)(t:(Unit)⊕Bool)(x:Ex)(e:Env)(h:Heap):Prop:=
 match t with
 | .inl _=> x= .normal∧∃k70:Nat,h=⟨[(0,none),(k5,some (arc .u8 8 x7.val)),(k34,some (arc .u8 8 x36.val)),((k34+1),some (arc .u8 8 x45.val)),((k34+2),some (arc .u8 8 x60.val))],k70⟩∧e.length=116∧e.at 1=V.iptr (qb a0)∧e.at 3=V.int .i64 v15_1∧e.at 4=V.ptr 1 k5 0∧e.at 14=V.int .i64 a0.Size∧e.at 15=V.int .i64 v15_1∧e.at 48=V.int .i64 a0.Size∧e.at 49=V.int .i64 v49_2
 | .inr r=> x= .ret∧Fin p157 (Enc.enc r) .ret e h
theorem l157_3(a0:GDga)(v15_1:Int)(x7:Ar .u8 8)(v49_2:Int)(x36:Ar .u8 8)(x45:Ar .u8 8)(x60:Ar .u8 8)(k5 k34:Nat){lo:Int}{s:Unit}{t:(Unit)⊕Bool}(hF:forR lo a0.Size (F157_3_B a0 v15_1 x7 v49_2 x36 x45 x60) (F157_3_D a0 v15_1 x7 v49_2 x36 x45 x60) s=some t){e:Env}{h:Heap}(hI:I157_3 a0 v15_1 x7 v49_2 x36 x45 x60 k5 k34 lo s e h):W A c157_3 e h (P157_3 a0 v15_1 x7 v49_2 x36 x45 x60 k5 k34 t):=by
 show W A (.block 4 (.loop false b157_3)) e h _;rw[qi];refine qr hF 5 (by obtain⟨_,rfl,_⟩:=hI; rfl) (I157_3 a0 v15_1 x7 v49_2 x36 x45 x60 k5 k34) hI ?_ ?_
 ·rintro v89_3 _ e h ⟨k70,rfl,h_69⟩ hlt hw o ho
  unfold F157_3_B at ho;obtain⟨n72,gn72,ho⟩:=bS ho;obtain⟨w73a,w73b,w73c,w73d⟩:=qU gn72;obtain⟨n74,gn74,ho⟩:=bS ho;obtain⟨w75a,w75b,w75c,w75d⟩:=qU gn74;have w76:List.take 8 (List.drop (n74*8) (List.drop (n72*64) (List.drop 82 (qb a0))))=arc .u8 8 (arP a0.Table.val (n72*64+n74*8) 8):=by simp only[wH]; exact qG (i:=n72*64+n74*8) (m:=8) (by omega) (by omega)
  have w76l:8≤List.length (List.drop (n74*8) (List.drop (n72*64) (List.drop 82 (qb a0)))):=by simp only[wQ,qj,qy]; omega
  obtain⟨x77,gx77,ho⟩:=bS ho;have w78:=s69 a0 v89_3 gx77;obtain⟨x79,gx79,ho⟩:=bS ho;have w80:ans A 177 [V.agg (qb a0),V.agg (arc .u8 8 (arP a0.Table.val (n72*64+n74*8) 8)),V.agg (arc .u8 8 x77.val)]=some (V.agg (arc .u8 8 x79.val)):=s177 a0 ⟨(arP a0.Table.val (n72*64+n74*8) 8)⟩ x77 gx79;obtain⟨n82,gn82,ho⟩:=bS ho;obtain⟨w83a,w83b,w83c,w83d⟩:=qU gn82;have w84:List.take 8 (List.drop (n82*8) (List.drop (n74*64) (List.drop 82 (qb a0))))=arc .u8 8 (arP a0.Table.val (n74*64+n82*8) 8):=by simp only[wH]; exact qG (i:=n74*64+n82*8) (m:=8) (by omega) (by omega)
  have w84l:8≤List.length (List.drop (n82*8) (List.drop (n74*64) (List.drop 82 (qb a0)))):=by simp only[wQ,qj,qy]; omega
  obtain⟨x85,gx85,ho⟩:=bS ho;have w86:ans A 177 [V.agg (qb a0),V.agg (arc .u8 8 x7.val),V.agg (arc .u8 8 (arP a0.Table.val (n74*64+n82*8) 8))]=some (V.agg (arc .u8 8 x85.val)):=s177 a0 x7 ⟨(arP a0.Table.val (n74*64+n82*8) 8)⟩ gx85;obtain⟨x87,gx87,ho⟩:=bS ho;have w88:eqSV true 12 (Lay.arr 8 8 1 (Lay.int Go.IntKind.u8)) (V.agg (arc .u8 8 x79.val)) (V.agg (arc .u8 8 x85.val))=some (V.bool (!x87)):=zE gx87;cases x87 with
  |true=>
   rw[if_pos rfl]at ho;cases ho;simp only[simprocAttr, -Int.reduceNatCast',R0,b157_3, *];refine ai rfl (ei _ (ai rfl ?_));simp only[simprocAttr, -Int.reduceNatCast',R0, *]
  |false=>
   rw[if_neg wC]at ho;cases ho;simp only[simprocAttr, -Int.reduceNatCast',R0,b157_3, *];intro ht; subst ht;simp only[simprocAttr, -Int.reduceNatCast',RR,RB];exact ai rfl (qd (by simp only[simprocAttr, -Int.reduceNatCast',R0,qe,p157,Rs.ev,qa, *]))
 ·rintro v89_3 _ e h ⟨k70,rfl,h_69⟩ hge t1 ho
  unfold F157_3_D at ho;cases ho;simp only[simprocAttr, -Int.reduceNatCast',R0,b157_3, *];intro ht; subst ht;refine ai rfl (ei _ (ai rfl ?_));simp only[simprocAttr, -Int.reduceNatCast',R0, *]
def I157_2(a0:GDga)(v15_1:Int)(x7:Ar .u8 8)(k5:Nat)(v49_2:Int)(s:Unit)(e:Env)(h:Heap):Prop:=
 ∃k34:Nat,h=⟨[(0,none),(k5,some (arc .u8 8 x7.val))],k34⟩∧e.length=116∧e.at 1=V.iptr (qb a0)∧e.at 3=V.int .i64 v15_1∧e.at 4=V.ptr 1 k5 0∧e.at 14=V.int .i64 a0.Size∧e.at 15=V.int .i64 v15_1∧e.at 48=V.int .i64 a0.Size∧e.at 49=V.int .i64 v49_2
def P157_2(a0:GDga)(v15_1:Int)(x7:Ar .u8 8)(k5:Nat)(t:(Unit)⊕Bool)(x:Ex)(e:Env)(h:Heap):Prop:=
 match t with
 | .inl _=> x= .normal∧∃k34:Nat,h=⟨[(0,none),(k5,some (arc .u8 8 x7.val))],k34⟩∧e.length=116∧e.at 1=V.iptr (qb a0)∧e.at 14=V.int .i64 a0.Size∧e.at 15=V.int .i64 v15_1
 | .inr r=> x= .ret∧Fin p157 (Enc.enc r) .ret e h
set_option maxHeartbeats 8000000 in
theorem l157_2(a0:GDga)(v15_1:Int)(x7:Ar .u8 8)(k5:Nat){lo:Int}{s:Unit}{t:(Unit)⊕Bool}(hF:forR lo a0.Size (F157_2_B a0 v15_1 x7) (F157_2_D a0 v15_1 x7) s=some t){e:Env}{h:Heap}(hI:I157_2 a0 v15_1 x7 k5 lo s e h):W A c157_2 e h (P157_2 a0 v15_1 x7 k5 t):=by
 show W A (.block 2 (.loop false b157_2)) e h _;rw[qi];refine qr hF 2 (by obtain⟨_,rfl,_⟩:=hI; rfl) (I157_2 a0 v15_1 x7 k5) hI ?_ ?_
 ·rintro v49_2 _ e h ⟨k34,rfl,h_33⟩ hlt hw o ho
  unfold F157_2_B at ho;obtain⟨x36,gx36,ho⟩:=bS ho;have w37:=s69 a0 v49_2 gx36;have w39:List.drop 8 (arc .u8 8 [])=[]:=wI (by rw[qj]; exact wG _);obtain⟨n40,gn40,ho⟩:=bS ho;obtain⟨w41a,w41b,w41c,w41d⟩:=qU gn40;obtain⟨n42,gn42,ho⟩:=bS ho;obtain⟨w43a,w43b,w43c,w43d⟩:=qU gn42;have w44:List.take 8 (List.drop (n42*8) (List.drop (n40*64) (List.drop 82 (qb a0))))=arc .u8 8 (arP a0.Table.val (n40*64+n42*8) 8):=by simp only[wH]; exact qG (i:=n40*64+n42*8) (m:=8) (by omega) (by omega)
  have w44l:8≤List.length (List.drop (n42*8) (List.drop (n40*64) (List.drop 82 (qb a0)))):=by simp only[wQ,qj,qy]; omega
  obtain⟨x45,gx45,ho⟩:=bS ho;have w46:ans A 178 [V.agg (qb a0),V.agg (arc .u8 8 (arP a0.Table.val (n40*64+n42*8) 8))]=some (V.agg (arc .u8 8 x45.val)):=s178 a0 ⟨(arP a0.Table.val (n40*64+n42*8) 8)⟩ gx45;have w48:List.drop 8 (arc .u8 8 [])=[]:=wI (by rw[qj]; exact wG _);have w49:List.take 8 (List.drop (n40*8) (List.drop 18 (qb a0)))=arc .u8 8 (arP a0.Diff.val (n40*8) 8):=by simp only[wH]; exact qH (i:=n40*8) (m:=8) (by omega) (by omega)
  have w49l:8≤List.length (List.drop (n40*8) (List.drop 18 (qb a0))):=by simp only[wQ,qj,qy]; omega
  obtain⟨x51,gx51,ho⟩:=bS ho;have w52:ans A 177 [V.agg (qb a0),V.agg (arc .u8 8 (arP a0.Diff.val (n40*8) 8)),V.agg (arc .u8 8 x36.val)]=some (V.agg (arc .u8 8 x51.val)):=s177 a0 ⟨(arP a0.Diff.val (n40*8) 8)⟩ x36 gx51;have w54:List.take 8 (List.drop (n42*8) (List.drop 18 (qb a0)))=arc .u8 8 (arP a0.Diff.val (n42*8) 8):=by simp only[wH]; exact qH (i:=n42*8) (m:=8) (by omega) (by omega)
  have w54l:8≤List.length (List.drop (n42*8) (List.drop 18 (qb a0))):=by simp only[wQ,qj,qy]; omega
  obtain⟨x55,gx55,ho⟩:=bS ho;have w56:ans A 177 [V.agg (qb a0),V.agg (arc .u8 8 x7.val),V.agg (arc .u8 8 (arP a0.Diff.val (n42*8) 8))]=some (V.agg (arc .u8 8 x55.val)):=s177 a0 x7 ⟨(arP a0.Diff.val (n42*8) 8)⟩ gx55;have w57:qf none (List.drop n40 (List.drop 2 (qb a0)))=some (V.int .i64 (a0.Degrees.val.getD n40 0)):=by simp only[wH]; exact qm (i:=n40) (by omega) (by omega)
  obtain⟨x58,gx58,ho⟩:=bS ho;have w59:=s179 (a0.Degrees.val.getD n40 0) gx58;obtain⟨x60,gx60,ho⟩:=bS ho;have w61:=s70 a0 x51 x55 x58 gx60;have w63:List.drop 8 (arc .u8 8 [])=[]:=wI (by rw[qj]; exact wG _);obtain⟨x66,gx66,ho⟩:=bS ho;have w67:eqSV true 12 (Lay.arr 8 8 1 (Lay.int Go.IntKind.u8)) (V.agg (arc .u8 8 x45.val)) (V.agg (arc .u8 8 x60.val))=some (V.bool (!x66)):=zE gx66;cases x66 with
  |true=>
   rw[if_pos rfl]at ho;have w68:qf none (List.drop 1 (qb a0))=some (V.int .i64 a0.Size):=qk rfl;obtain⟨t89,gt89,ho⟩:=bS ho;rcases t89 with _|r90
   ·dsimp only at ho
    simp only[simprocAttr, -Int.reduceNatCast',R0,b157_2,wB,wB,wB, *];refine W.mono (l157_3 a0 v15_1 x7 v49_2 x36 x45 x60 k5 k34 gt89 (ei _ (ai rfl ?_))) ?_
    ·simp only[simprocAttr, -Int.reduceNatCast',R0,wB,wB,wB, *]
    rintro _ e _ ⟨rfl,k70,rfl,h_71⟩;cases ho;simp only[simprocAttr, -Int.reduceNatCast',R0, *];refine ai rfl (ei _ (ai rfl ?_));simp only[simprocAttr, -Int.reduceNatCast',R0, *]
   ·dsimp only at ho
    cases ho;simp only[simprocAttr, -Int.reduceNatCast',R0,b157_2,wB,wB,wB, *];refine W.mono (l157_3 a0 v15_1 x7 v49_2 x36 x45 x60 k5 k34 gt89 (ei _ (ai rfl ?_))) ?_
    ·simp only[simprocAttr, -Int.reduceNatCast',R0,wB,wB,wB, *]
    rintro _ e h ⟨rfl,hq⟩;simp only[simprocAttr, -Int.reduceNatCast',RR,RB];intro ht; subst ht;simp only[simprocAttr, -Int.reduceNatCast',RR,RB];exact ai rfl hq
  |false=>
   rw[if_neg wC]at ho;cases ho;simp only[simprocAttr, -Int.reduceNatCast',R0,b157_2,wB,wB,wB, *];intro ht; subst ht;simp only[simprocAttr, -Int.reduceNatCast',RR,RB];exact ai rfl (qd (by simp only[simprocAttr, -Int.reduceNatCast',R0,qe,p157,Rs.ev,qa,wB,wB,wB, *]))
 ·rintro v49_2 _ e h ⟨k34,rfl,h_33⟩ hge t1 ho
  unfold F157_2_D at ho;cases ho;simp only[simprocAttr, -Int.reduceNatCast',R0,b157_2, *];intro ht; subst ht;refine ai rfl (ei _ (ai rfl ?_));simp only[simprocAttr, -Int.reduceNatCast',R0, *]
def I157_1(a0:GDga)(v15_1:Int)(s:Unit)(e:Env)(h:Heap):Prop:=
 ∃k5:Nat,h=⟨[(0,none)],k5⟩∧e.length=116∧e.at 1=V.iptr (qb a0)∧e.at 14=V.int .i64 a0.Size∧e.at 15=V.int .i64 v15_1
def P157_1(a0:GDga)(t:(Unit)⊕Bool)(x:Ex)(e:Env)(h:Heap):Prop:=
 match t with
 | .inl _=> x= .normal∧∃k5:Nat,h=⟨[(0,none)],k5⟩∧e.length=116
 | .inr r=> x= .ret∧Fin p157 (Enc.enc r) .ret e h
set_option maxHeartbeats 8000000 in
theorem l157_1(a0:GDga){lo:Int}{s:Unit}{t:(Unit)⊕Bool}(hF:forR lo a0.Size (F157_1_B a0) (F157_1_D a0) s=some t){e:Env}{h:Heap}(hI:I157_1 a0 lo s e h):W A c157_1 e h (P157_1 a0 t):=by
 show W A (.block 0 (.loop false b157_1)) e h _;rw[qi];refine qr hF 1 (by obtain⟨_,rfl,_⟩:=hI; rfl) (I157_1 a0) hI ?_ ?_
 ·rintro v15_1 _ e h ⟨k5,rfl,h_4⟩ hlt hw o ho
  unfold F157_1_B at ho;obtain⟨x7,gx7,ho⟩:=bS ho;have w8:=s69 a0 v15_1 gx7;have w10:List.drop 8 (arc .u8 8 [])=[]:=wI (by rw[qj]; exact wG _);obtain⟨x11,gx11,ho⟩:=bS ho;have w12:=s69 a0 0 gx11;obtain⟨x14,gx14,ho⟩:=bS ho;have w15:=s177 a0 x11 x7 gx14;obtain⟨x17,gx17,ho⟩:=bS ho;have w18:eqSV true 12 (Lay.arr 8 8 1 (Lay.int Go.IntKind.u8)) (V.agg (arc .u8 8 x14.val)) (V.agg (arc .u8 8 x7.val))=some (V.bool (!x17)):=zE gx17;cases x17 with
  |true=>
   rw[if_pos rfl]at ho;obtain⟨x20,gx20,ho⟩:=bS ho;have w21:=s177 a0 x7 x11 gx20;obtain⟨x23,gx23,ho⟩:=bS ho;have w24:eqSV true 12 (Lay.arr 8 8 1 (Lay.int Go.IntKind.u8)) (V.agg (arc .u8 8 x20.val)) (V.agg (arc .u8 8 x7.val))=some (V.bool (!x23)):=zE gx23;cases x23 with
   |true=>
    rw[if_pos rfl]at ho;obtain⟨n25,gn25,ho⟩:=bS ho;obtain⟨w26a,w26b,w26c,w26d⟩:=qU gn25;have w27:List.take 8 (List.drop (n25*8) (List.drop 18 (qb a0)))=arc .u8 8 (arP a0.Diff.val (n25*8) 8):=by simp only[wH]; exact qH (i:=n25*8) (m:=8) (by omega) (by omega)
    have w27l:8≤List.length (List.drop (n25*8) (List.drop 18 (qb a0))):=by simp only[wQ,qj,qy]; omega
    obtain⟨x28,gx28,ho⟩:=bS ho;have w29:ans A 178 [V.agg (qb a0),V.agg (arc .u8 8 (arP a0.Diff.val (n25*8) 8))]=some (V.agg (arc .u8 8 x28.val)):=s178 a0 ⟨(arP a0.Diff.val (n25*8) 8)⟩ gx28;obtain⟨x30,gx30,ho⟩:=bS ho;have w31:eqSV true 12 (Lay.arr 8 8 1 (Lay.int Go.IntKind.u8)) (V.agg (arc .u8 8 x28.val)) (V.agg (arc .u8 8 []))=some (V.bool (!x30)):=zE gx30;cases x30 with
    |true=>
     rw[if_pos rfl]at ho;have w32:qf none (List.drop 1 (qb a0))=some (V.int .i64 a0.Size):=qk rfl;obtain⟨t91,gt91,ho⟩:=bS ho;rcases t91 with _|r92
     ·dsimp only at ho
      simp only[simprocAttr, -Int.reduceNatCast',R0,b157_1,wB, *];refine W.mono (l157_2 a0 v15_1 x7 k5 gt91 (ei _ (ai rfl ?_))) ?_
      ·simp only[simprocAttr, -Int.reduceNatCast',R0,wB, *]
      rintro _ e _ ⟨rfl,k34,rfl,h_35⟩;cases ho;simp only[simprocAttr, -Int.reduceNatCast',R0, *];refine ai rfl (ei _ (ai rfl ?_));simp only[simprocAttr, -Int.reduceNatCast',R0, *]
     ·dsimp only at ho
      cases ho;simp only[simprocAttr, -Int.reduceNatCast',R0,b157_1,wB, *];refine W.mono (l157_2 a0 v15_1 x7 k5 gt91 (ei _ (ai rfl ?_))) ?_
      ·simp only[simprocAttr, -Int.reduceNatCast',R0,wB, *]
      rintro _ e h ⟨rfl,hq⟩;simp only[simprocAttr, -Int.reduceNatCast',RR,RB];intro ht; subst ht;simp only[simprocAttr, -Int.reduceNatCast',RR,RB];exact ai rfl hq
    |false=>
     rw[if_neg wC]at ho;cases ho;simp only[simprocAttr, -Int.reduceNatCast',R0,b157_1,wB, *];intro ht; subst ht;simp only[simprocAttr, -Int.reduceNatCast',RR,RB];exact ai rfl (qd (by simp only[simprocAttr, -Int.reduceNatCast',R0,qe,p157,Rs.ev,qa,wB, *]))
   |false=>
    rw[if_neg wC]at ho;cases ho;simp only[simprocAttr, -Int.reduceNatCast',R0,b157_1,wB, *];intro ht; subst ht;simp only[simprocAttr, -Int.reduceNatCast',RR,RB];exact ai rfl (qd (by simp only[simprocAttr, -Int.reduceNatCast',R0,qe,p157,Rs.ev,qa,wB, *]))
  |false=>
   rw[if_neg wC]at ho;cases ho;simp only[simprocAttr, -Int.reduceNatCast',R0,b157_1,wB, *];intro ht; subst ht;simp only[simprocAttr, -Int.reduceNatCast',RR,RB];exact ai rfl (qd (by simp only[simprocAttr, -Int.reduceNatCast',R0,qe,p157,Rs.ev,qa,wB, *]))
 ·rintro v15_1 _ e h ⟨k5,rfl,h_4⟩ hge t1 ho
  unfold F157_1_D at ho;cases ho;simp only[simprocAttr, -Int.reduceNatCast',R0,b157_1, *];intro ht; subst ht;refine ai rfl (ei _ (ai rfl ?_));simp only[simprocAttr, -Int.reduceNatCast',R0, *]
theorem s157(a0:GDga){r:Bool}(hF:F157 a0=some r):ans A 157 [V.agg (qb a0)]=some (Enc.enc r):=by
 refine qu (f:=p157) rfl rfl rfl fun e hl he=>?_;have h0_0:e.at 0=V.agg (qb a0):=he 0 _ rfl;have hl_0:e.length=116:=hl;clear he hl;have h_0:=ai hl_0 h0_0;show W A b157 e ⟨[],0⟩ _;unfold F157 at hF;obtain⟨x1,gx1,hF⟩:=bS hF;have w2:=s176 a0 gx1;cases x1 with
 |true=>
  rw[if_pos rfl]at hF;have w3:qf none (List.drop 1 (qb a0))=some (V.int .i64 a0.Size):=qk rfl;obtain⟨t93,gt93,hF⟩:=bS hF;rcases t93 with _|r94
  ·dsimp only at hF
   simp only[simprocAttr,R0,b157, *];refine W.mono (l157_1 a0 gt93 (ei _ (ai rfl ?_))) ?_
   ·simp only[simprocAttr,R0, *]
   rintro _ e _ ⟨rfl,k5,rfl,hl_6⟩;cases hF;simp only[simprocAttr,R0, *];exact qd (by simp only[simprocAttr,R0,qe,p157,Rs.ev,qa, *])
  ·dsimp only at hF
   cases hF;simp only[simprocAttr,R0,b157, *];refine W.mono (l157_1 a0 gt93 (ei _ (ai rfl ?_))) ?_
   ·simp only[simprocAttr,R0, *]
   rintro _ e h ⟨rfl,hq⟩;simp only[simprocAttr,RR,RB];exact hq
 |false=>
  rw[if_neg wC]at hF;cases hF;simp only[simprocAttr,R0,b157, *];exact qd (by simp only[simprocAttr,R0,qe,p157,Rs.ev,qa, *])
def xO(a0:List Int)(f1:Int→Option Bool)(v8_1:Int)(s:Unit):Option ((Unit)⊕((Unit)⊕Int)):=
 (getI a0 v8_1).bind fun x4=>
(f1 x4).bind fun x6=>
if x6=true then
 some (.inr (.inr v8_1))
else
 some (.inl ())
def F115_1_D(a0:List Int)(f1:Int→Option Bool)(v8_1:Int)(s:Unit):Option ((Unit)⊕Int):=
 some (.inl ())
def F115(a0:List Int)(f1:Int→Option Bool):Option Int:=
 (forR 0 (a0.length:Int) (xO a0 f1) (F115_1_D a0 f1) ()).bind fun t8=> match t8 with
  | .inl _=>
   some (-1)
  | .inr r9=> some r9
def I115_1(a0:List Int)(f1:Int→Option Bool)(vf1:V)(v8_1:Int)(s:Unit)(e:Env)(h:Heap):Prop:=
 ∃k2:Nat,h=⟨[],k2⟩∧e.length=19∧e.at 0=V.isl (a0.map Enc.enc)∧e.at 1=vf1∧e.at 7=V.int .i64 (a0.length:Int)∧e.at 8=V.int .i64 v8_1
def P115_1(a0:List Int)(f1:Int→Option Bool)(vf1:V)(t:(Unit)⊕Int)(x:Ex)(e:Env)(h:Heap):Prop:=
 match t with
 | .inl _=> x= .normal∧∃k2:Nat,h=⟨[],k2⟩∧e.length=19
 | .inr r=> x= .ret∧Fin p115 (Enc.enc r) .ret e h
theorem l115_1(a0:List Int)(f1:Int→Option Bool)(vf1:V)(hf1:Clo1 A vf1 f1){lo:Int}{s:Unit}{t:(Unit)⊕Int}(hF:forR lo (a0.length:Int) (xO a0 f1) (F115_1_D a0 f1) s=some t){e:Env}{h:Heap}(hI:I115_1 a0 f1 vf1 lo s e h):W A c115_1 e h (P115_1 a0 f1 vf1 t):=by
 obtain⟨g_f1,fs_f1,cs_f1,hv_f1,hc_f1⟩:=id hf1;show W A (.block 0 (.loop false b115_1)) e h _;rw[qi];refine qr hF 0 (by obtain⟨_,rfl,_⟩:=hI; rfl) (I115_1 a0 f1 vf1) hI ?_ ?_
 ·rintro v8_1 _ e h ⟨k2,rfl,h_1⟩ hlt hw o ho
  unfold xO at ho;obtain⟨x4,gx4,ho⟩:=bS ho;obtain⟨w5a,w5b⟩:=ql gx4;obtain⟨x6,gx6,ho⟩:=bS ho;have w7a:∀h,mapO (frz h 16) (fs_f1++[V.int .i64 x4]++cs_f1)=some (fs_f1++[V.int .i64 x4]++cs_f1):=fun h=> hc_f1.zf x4 h;have w7b:List.all (fs_f1++[V.int .i64 x4]++cs_f1) (qB 16)=true:=hc_f1.zr x4;have w7c:ans A g_f1 (fs_f1++[V.int .i64 x4]++cs_f1)=some (V.bool x6):=hc_f1.ka x4 _ gx6;cases x6 with
  |true=>
   rw[if_pos rfl]at ho;cases ho;simp only[simprocAttr,R0,b115_1, *];intro ht; subst ht;simp only[simprocAttr,RR,RB];exact ai rfl (qd (by simp only[simprocAttr,R0,qe,p115,Rs.ev,qa, *]))
  |false=>
   rw[if_neg wC]at ho;cases ho;simp only[simprocAttr,R0,b115_1, *];refine ai rfl (ei _ (ai rfl ?_));simp only[simprocAttr,R0, *]
 ·rintro v8_1 _ e h ⟨k2,rfl,h_1⟩ hge t1 ho
  unfold F115_1_D at ho;cases ho;simp only[simprocAttr,R0,b115_1, *];intro ht; subst ht;refine ai rfl (ei _ (ai rfl ?_));simp only[simprocAttr,R0, *]
theorem s115(a0:List Int)(f1:Int→Option Bool){vf1:V}(hf1:Clo1 A vf1 f1){r:Int}(hF:F115 a0 f1=some r):ans A 115 [V.isl (a0.map Enc.enc),vf1]=some (Enc.enc r):=by
 refine qu (f:=p115) rfl rfl rfl fun e hl he=>?_;have h0_0:e.at 0=V.isl (a0.map Enc.enc):=he 0 _ rfl;have h1_0:e.at 1=vf1:=he 1 _ rfl;obtain⟨g_f1,fs_f1,cs_f1,hv_f1,hc_f1⟩:=id hf1;have hl_0:e.length=19:=hl;clear he hl;have h_0:=ai hl_0 (ai h0_0 h1_0);show W A b115 e ⟨[],0⟩ _;unfold F115 at hF;obtain⟨t8,gt8,hF⟩:=bS hF;rcases t8 with _|r9
 ·dsimp only at hF
  simp only[simprocAttr,R0,b115, *];refine W.mono (l115_1 a0 f1 vf1 hf1 gt8 (ei _ (ai rfl ?_))) ?_
  ·simp only[simprocAttr,R0, *]
  rintro _ e _ ⟨rfl,k2,rfl,hl_3⟩;cases hF;simp only[simprocAttr,R0, *];exact qd (by simp only[simprocAttr,R0,qe,p115,Rs.ev,qa, *])
 ·dsimp only at hF
  cases hF;simp only[simprocAttr,R0,b115, *];refine W.mono (l115_1 a0 f1 vf1 hf1 gt8 (ei _ (ai rfl ?_))) ?_
  ·simp only[simprocAttr,R0, *]
  rintro _ e h ⟨rfl,hq⟩;simp only[simprocAttr,RR,RB];exact hq
def F82(a0:List Int)(f1:Int→Option Bool):Option Bool:=
 (F115 a0 f1).bind fun x1=>
 some (decide (0≤x1))
theorem s82(a0:List Int)(f1:Int→Option Bool){vf1:V}(hf1:Clo1 A vf1 f1){r:Bool}(hF:F82 a0 f1=some r):ans A 82 [V.isl (a0.map Enc.enc),vf1]=some (Enc.enc r):=by
 refine qu (f:=p82) rfl rfl rfl fun e hl he=>?_;have h0_0:e.at 0=V.isl (a0.map Enc.enc):=he 0 _ rfl;have h1_0:e.at 1=vf1:=he 1 _ rfl;obtain⟨g_f1,fs_f1,cs_f1,hv_f1,hc_f1⟩:=id hf1;have hl_0:e.length=9:=hl;clear he hl;show W A b82 e ⟨[],0⟩ _;unfold F82 at hF;obtain⟨x1,gx1,hF⟩:=bS hF;have w2:ans A 115 [V.isl (a0.map Enc.enc),vf1]=some (V.int .i64 x1):=s115 a0 f1 hf1 gx1;cases hF;simp only[simprocAttr,R0,b82,hl_0,h0_0,h1_0,hf1.fz,hf1.rl,w2];exact qd (by simp only[simprocAttr,R0,qe,p82,Rs.ev,qa,hl_0,h0_0,h1_0,hf1.fz,hf1.rl,w2])
def F87(a0:List (List (List Int))):Option Int:=
 some (a0.length:Int)
theorem s87(a0:List (List (List Int))){r:Int}(hF:F87 a0=some r):ans A 87 [V.isl (a0.map Enc.enc)]=some (Enc.enc r):=by
 refine qu (f:=p87) rfl rfl rfl fun e hl he=>?_;have h0_0:e.at 0=V.isl (a0.map Enc.enc):=he 0 _ rfl;have hl_0:e.length=5:=hl;clear he hl;show W A b87 e ⟨[],0⟩ _;unfold F87 at hF;cases hF;simp only[simprocAttr,R0,b87, *];exact qd (by simp only[simprocAttr,R0,qe,p87,Rs.ev,qa, *])
def F88(a0:Int):Option Bool:=
 (F56 a0 0 8).bind fun x1=>
 some (!x1)
theorem s88(a0:Int){r:Bool}(hF:F88 a0=some r):ans A 88 [V.int .i64 a0]=some (Enc.enc r):=by
 refine qu (f:=p88) rfl rfl rfl fun e hl he=>?_;have h0_0:e.at 0=V.int .i64 a0:=he 0 _ rfl;have hl_0:e.length=6:=hl;clear he hl;show W A b88 e ⟨[],0⟩ _;unfold F88 at hF;obtain⟨x1,gx1,hF⟩:=bS hF;have w2:=s56 a0 0 8 gx1;cases hF;simp only[simprocAttr,R0,b88, *];exact qd (by simp only[simprocAttr,R0,qe,p88,Rs.ev,qa, *])
def F130(a0:Int)(d0:Int):Option Bool:=
 (chk (d0 - 1)).bind fun x1=>
 (F56 a0 0 x1).bind fun x2=>
 some (!x2)
theorem s130(a0:Int)(d0:Int){r:Bool}(hF:F130 a0 d0=some r):ans A 130 [V.int .i64 a0,V.iptr [V.int .i64 d0]]=some (Enc.enc r):=by
 refine qu (f:=p130) rfl rfl rfl fun e hl he=>?_;have h0_0:e.at 0=V.int .i64 a0:=he 0 _ rfl;have h1_0:e.at 1=V.iptr [V.int .i64 d0]:=he 1 _ rfl;have hl_0:e.length=9:=hl;clear he hl;show W A b130 e ⟨[],0⟩ _;unfold F130 at hF;obtain⟨x1,gx1,hF⟩:=bS hF;have wx1:=qx gx1;obtain⟨x2,gx2,hF⟩:=bS hF;have w3:=s56 a0 0 x1 gx2;cases hF;simp only[simprocAttr,R0,b130, *];exact qd (by simp only[simprocAttr,R0,qe,p130,Rs.ev,qa, *])
def F129(a0:Int)(a1:Int)(a2:List Int):Option Bool:=
 if(a2.length:Int)=a1 then
  (F82 a2 (fun x=> F130 x a0)).bind fun x4=>
  some (!x4)
 else
  some false
theorem s129(a0:Int)(a1:Int)(a2:List Int){r:Bool}(hF:F129 a0 a1 a2=some r):ans A 129 [V.int .i64 a0,V.int .i64 a1,V.isl (a2.map Enc.enc)]=some (Enc.enc r):=by
 refine qu (f:=p129) rfl rfl rfl fun e hl he=>?_;have h0_0:e.at 0=V.int .i64 a0:=he 0 _ rfl;have h1_0:e.at 1=V.int .i64 a1:=he 1 _ rfl;have h2_0:e.at 2=V.isl (a2.map Enc.enc):=he 2 _ rfl;have hl_0:e.length=17:=hl;clear he hl;have h_0:=ai hl_0 (ai h0_0 (ai h1_0 h2_0));show W A b129 e ⟨[],0⟩ _;unfold F129 at hF;have w2:ans A 73 [V.isl (a2.map Enc.enc)]=some (V.int .i64 (a2.length:Int)):=s73 a2 rfl;by_cases c3:(a2.length:Int)=a1
 ·rw[if_pos c3]at hF
  obtain⟨x4,gx4,hF⟩:=bS hF;have w5:ans A 82 [V.isl (a2.map Enc.enc),V.fn 130 [] [V.iptr [V.int .i64 a0]]]=some (V.bool x4):=s82 a2 (fun x=> F130 x a0) (Clo1.of (by intro h f; simp only[RZ,mapO]) (by intro h f; simp only[RZ,mapO]) (by intro f; simp only[RZ,RB]) (by intro f; simp only[RZ,RB]) (fun x _ hr=> s130 x a0 hr)) gx4;cases hF;simp only[simprocAttr,R0,b129, *];exact qd (by simp only[simprocAttr,R0,qe,p129,Rs.ev,qa, *])
 ·rw[if_neg c3]at hF
  cases hF;simp only[simprocAttr,R0,b129, *];exact qd (by simp only[simprocAttr,R0,qe,p129,Rs.ev,qa, *])
def F116(a0:List Int)(d0:Int)(d1:Int):Option Bool:=
 (F129 d0 d1 a0).bind fun x1=>
 some (!x1)
theorem s116(a0:List Int)(d0:Int)(d1:Int){r:Bool}(hF:F116 a0 d0 d1=some r):ans A 116 [V.isl (a0.map Enc.enc),V.iptr [V.int .i64 d0],V.iptr [V.int .i64 d1]]=some (Enc.enc r):=by
 refine qu (f:=p116) rfl rfl rfl fun e hl he=>?_;have h0_0:e.at 0=V.isl (a0.map Enc.enc):=he 0 _ rfl;have h1_0:e.at 1=V.iptr [V.int .i64 d0]:=he 1 _ rfl;have h2_0:e.at 2=V.iptr [V.int .i64 d1]:=he 2 _ rfl;have hl_0:e.length=10:=hl;clear he hl;show W A b116 e ⟨[],0⟩ _;unfold F116 at hF;obtain⟨x1,gx1,hF⟩:=bS hF;have w2:=s129 d0 d1 a0 gx1;cases hF;simp only[simprocAttr,R0,b116, *];exact qd (by simp only[simprocAttr,R0,qe,p116,Rs.ev,qa, *])
def xM(a0:List (List Int))(f1:(List Int)→Option Bool)(v8_1:Int)(s:Unit):Option ((Unit)⊕((Unit)⊕Int)):=
 (getI a0 v8_1).bind fun x4=>
(f1 x4).bind fun x6=>
if x6=true then
 some (.inr (.inr v8_1))
else
 some (.inl ())
def F128_1_D(a0:List (List Int))(f1:(List Int)→Option Bool)(v8_1:Int)(s:Unit):Option ((Unit)⊕Int):=
 some (.inl ())
def F128(a0:List (List Int))(f1:(List Int)→Option Bool):Option Int:=
 (forR 0 (a0.length:Int) (xM a0 f1) (F128_1_D a0 f1) ()).bind fun t8=> match t8 with
  | .inl _=>
   some (-1)
  | .inr r9=> some r9
def I128_1(a0:List (List Int))(f1:(List Int)→Option Bool)(vf1:V)(v8_1:Int)(s:Unit)(e:Env)(h:Heap):Prop:=
 ∃k2:Nat,h=⟨[],k2⟩∧e.length=19∧e.at 0=V.isl (a0.map Enc.enc)∧e.at 1=vf1∧e.at 7=V.int .i64 (a0.length:Int)∧e.at 8=V.int .i64 v8_1
def P128_1(a0:List (List Int))(f1:(List Int)→Option Bool)(vf1:V)(t:(Unit)⊕Int)(x:Ex)(e:Env)(h:Heap):Prop:=
 match t with
 | .inl _=> x= .normal∧∃k2:Nat,h=⟨[],k2⟩∧e.length=19
 | .inr r=> x= .ret∧Fin p128 (Enc.enc r) .ret e h
theorem l128_1(a0:List (List Int))(f1:(List Int)→Option Bool)(vf1:V)(hf1:Clo1 A vf1 f1){lo:Int}{s:Unit}{t:(Unit)⊕Int}(hF:forR lo (a0.length:Int) (xM a0 f1) (F128_1_D a0 f1) s=some t){e:Env}{h:Heap}(hI:I128_1 a0 f1 vf1 lo s e h):W A c128_1 e h (P128_1 a0 f1 vf1 t):=by
 obtain⟨g_f1,fs_f1,cs_f1,hv_f1,hc_f1⟩:=id hf1;show W A (.block 0 (.loop false b128_1)) e h _;rw[qi];refine qr hF 0 (by obtain⟨_,rfl,_⟩:=hI; rfl) (I128_1 a0 f1 vf1) hI ?_ ?_
 ·rintro v8_1 _ e h ⟨k2,rfl,h_1⟩ hlt hw o ho
  unfold xM at ho;obtain⟨x4,gx4,ho⟩:=bS ho;obtain⟨w5a,w5b⟩:=ql gx4;obtain⟨x6,gx6,ho⟩:=bS ho;have w7a:∀h,mapO (frz h 16) (fs_f1++[V.isl (x4.map Enc.enc)]++cs_f1)=some (fs_f1++[V.isl (x4.map Enc.enc)]++cs_f1):=fun h=> hc_f1.zf x4 h;have w7b:List.all (fs_f1++[V.isl (x4.map Enc.enc)]++cs_f1) (qB 16)=true:=hc_f1.zr x4;have w7c:ans A g_f1 (fs_f1++[V.isl (x4.map Enc.enc)]++cs_f1)=some (V.bool x6):=hc_f1.ka x4 _ gx6;cases x6 with
  |true=>
   rw[if_pos rfl]at ho;cases ho;simp only[simprocAttr,R0,b128_1, *];intro ht; subst ht;simp only[simprocAttr,RR,RB];exact ai rfl (qd (by simp only[simprocAttr,R0,qe,p128,Rs.ev,qa, *]))
  |false=>
   rw[if_neg wC]at ho;cases ho;simp only[simprocAttr,R0,b128_1, *];refine ai rfl (ei _ (ai rfl ?_));simp only[simprocAttr,R0, *]
 ·rintro v8_1 _ e h ⟨k2,rfl,h_1⟩ hge t1 ho
  unfold F128_1_D at ho;cases ho;simp only[simprocAttr,R0,b128_1, *];intro ht; subst ht;refine ai rfl (ei _ (ai rfl ?_));simp only[simprocAttr,R0, *]
theorem s128(a0:List (List Int))(f1:(List Int)→Option Bool){vf1:V}(hf1:Clo1 A vf1 f1){r:Int}(hF:F128 a0 f1=some r):ans A 128 [V.isl (a0.map Enc.enc),vf1]=some (Enc.enc r):=by
 refine qu (f:=p128) rfl rfl rfl fun e hl he=>?_;have h0_0:e.at 0=V.isl (a0.map Enc.enc):=he 0 _ rfl;have h1_0:e.at 1=vf1:=he 1 _ rfl;obtain⟨g_f1,fs_f1,cs_f1,hv_f1,hc_f1⟩:=id hf1;have hl_0:e.length=19:=hl;clear he hl;have h_0:=ai hl_0 (ai h0_0 h1_0);show W A b128 e ⟨[],0⟩ _;unfold F128 at hF;obtain⟨t8,gt8,hF⟩:=bS hF;rcases t8 with _|r9
 ·dsimp only at hF
  simp only[simprocAttr,R0,b128, *];refine W.mono (l128_1 a0 f1 vf1 hf1 gt8 (ei _ (ai rfl ?_))) ?_
  ·simp only[simprocAttr,R0, *]
  rintro _ e _ ⟨rfl,k2,rfl,hl_3⟩;cases hF;simp only[simprocAttr,R0, *];exact qd (by simp only[simprocAttr,R0,qe,p128,Rs.ev,qa, *])
 ·dsimp only at hF
  cases hF;simp only[simprocAttr,R0,b128, *];refine W.mono (l128_1 a0 f1 vf1 hf1 gt8 (ei _ (ai rfl ?_))) ?_
  ·simp only[simprocAttr,R0, *]
  rintro _ e h ⟨rfl,hq⟩;simp only[simprocAttr,RR,RB];exact hq
def F117(a0:List (List Int))(f1:(List Int)→Option Bool):Option Bool:=
 (F128 a0 f1).bind fun x1=>
 some (decide (0≤x1))
theorem s117(a0:List (List Int))(f1:(List Int)→Option Bool){vf1:V}(hf1:Clo1 A vf1 f1){r:Bool}(hF:F117 a0 f1=some r):ans A 117 [V.isl (a0.map Enc.enc),vf1]=some (Enc.enc r):=by
 refine qu (f:=p117) rfl rfl rfl fun e hl he=>?_;have h0_0:e.at 0=V.isl (a0.map Enc.enc):=he 0 _ rfl;have h1_0:e.at 1=vf1:=he 1 _ rfl;obtain⟨g_f1,fs_f1,cs_f1,hv_f1,hc_f1⟩:=id hf1;have hl_0:e.length=9:=hl;clear he hl;show W A b117 e ⟨[],0⟩ _;unfold F117 at hF;obtain⟨x1,gx1,hF⟩:=bS hF;have w2:ans A 128 [V.isl (a0.map Enc.enc),vf1]=some (V.int .i64 x1):=s128 a0 f1 hf1 gx1;cases hF;simp only[simprocAttr,R0,b117,hl_0,h0_0,h1_0,hf1.fz,hf1.rl,w2];exact qd (by simp only[simprocAttr,R0,qe,p117,Rs.ev,qa,hl_0,h0_0,h1_0,hf1.fz,hf1.rl,w2])
def F90(a0:Int)(a1:Int)(a2:List (List Int)):Option Bool:=
 (F117 a2 (fun x=> F116 x a0 a1)).bind fun x1=>
 some (!x1)
theorem s90(a0:Int)(a1:Int)(a2:List (List Int)){r:Bool}(hF:F90 a0 a1 a2=some r):ans A 90 [V.int .i64 a0,V.int .i64 a1,V.isl (a2.map Enc.enc)]=some (Enc.enc r):=by
 refine qu (f:=p90) rfl rfl rfl fun e hl he=>?_;have h0_0:e.at 0=V.int .i64 a0:=he 0 _ rfl;have h1_0:e.at 1=V.int .i64 a1:=he 1 _ rfl;have h2_0:e.at 2=V.isl (a2.map Enc.enc):=he 2 _ rfl;have hl_0:e.length=11:=hl;clear he hl;show W A b90 e ⟨[],0⟩ _;unfold F90 at hF;obtain⟨x1,gx1,hF⟩:=bS hF;have w2:ans A 117 [V.isl (a2.map Enc.enc),V.fn 116 [] [V.iptr [V.int .i64 a0],V.iptr [V.int .i64 a1]]]=some (V.bool x1):=s117 a2 (fun x=> F116 x a0 a1) (Clo1.of (by intro h f; simp only[RZ,mapO]) (by intro h f; simp only[RZ,mapO]) (by intro f; simp only[RZ,RB]) (by intro f; simp only[RZ,RB]) (fun x _ hr=> s116 x a0 a1 hr)) gx1;cases hF;simp only[simprocAttr,R0,b90, *];exact qd (by simp only[simprocAttr,R0,qe,p90,Rs.ev,qa, *])
def F119_2_B(a0:Int)(a2:List Int)(a3:List (List Int))(v18_1:Int)(x7:Int)(x9:List Int)(v28_2:Int)(o0_2:(List Int)):Option (((List Int))⊕((List Int))):=
 (getI x9 v28_2).bind fun x15=>
(getI o0_2 v28_2).bind fun x17=>
(chk (x7*x15)).bind fun x19=>
(chk (x17+x19)).bind fun x20=>
(remI x20 a0).bind fun x21=>
(setI o0_2 v28_2 x21).bind fun l23=>
some (.inl l23)
def F119_2_D(a0:Int)(a2:List Int)(a3:List (List Int))(v18_1:Int)(x7:Int)(x9:List Int)(v28_2:Int)(o0_2:(List Int)):Option ((List Int)):=
 some o0_2
def F119_1_B(a0:Int)(a2:List Int)(a3:List (List Int))(v18_1:Int)(o0_1:(List Int)):Option (((List Int))⊕((List Int))):=
 (getI a2 v18_1).bind fun x7=>
(getI a3 v18_1).bind fun x9=>
(forR 0 (x9.length:Int) (F119_2_B a0 a2 a3 v18_1 x7 x9) (F119_2_D a0 a2 a3 v18_1 x7 x9) o0_1).bind fun zo0_2=>
some (.inl zo0_2)
def F119_1_D(a0:Int)(a2:List Int)(a3:List (List Int))(v18_1:Int)(o0_1:(List Int)):Option ((List Int)):=
 some o0_1
def F119(a0:Int)(a1:Int)(a2:List Int)(a3:List (List Int)):Option (List Int):=
 (mkL 8 a1 0).bind fun l1=>
 (forR 0 (a2.length:Int) (F119_1_B a0 a2 a3) (F119_1_D a0 a2 a3) l1).bind fun zo0_1=>
 some zo0_1
def I119_2(a0:Int)(a2:List Int)(a3:List (List Int))(v18_1:Int)(x7:Int)(x9:List Int)(v28_2:Int)(o0_2:(List Int))(e:Env)(h:Heap):Prop:=
 ∃u12 k13:Nat,h=⟨[(u12,some (o0_2.map Enc.enc))],k13⟩∧e.length=49∧e.at 0=V.int .i64 a0∧e.at 3=V.isl (a3.map Enc.enc)∧e.at 9=V.sl 0 u12 0 o0_2.length 1∧e.at 11=V.int .i64 x7∧e.at 16=V.isl (a2.map Enc.enc)∧e.at 17=V.int .i64 (a2.length:Int)∧e.at 18=V.int .i64 v18_1∧e.at 26=V.isl (x9.map Enc.enc)∧e.at 27=V.int .i64 (x9.length:Int)∧e.at 28=V.int .i64 v28_2
def P119_2(a0:Int)(a2:List Int)(a3:List (List Int))(v18_1:Int)(x7:Int)(x9:List Int)(zo0_2:(List Int))(x:Ex)(e:Env)(h:Heap):Prop:=
 x= .normal∧∃u12 k13:Nat,h=⟨[(u12,some (zo0_2.map Enc.enc))],k13⟩∧e.length=49∧e.at 0=V.int .i64 a0∧e.at 3=V.isl (a3.map Enc.enc)∧e.at 9=V.sl 0 u12 0 zo0_2.length 1∧e.at 16=V.isl (a2.map Enc.enc)∧e.at 17=V.int .i64 (a2.length:Int)∧e.at 18=V.int .i64 v18_1
theorem l119_2(a0:Int)(a2:List Int)(a3:List (List Int))(v18_1:Int)(x7:Int)(x9:List Int){lo:Int}{s:(List Int)}{t:(List Int)}(hF:forR lo (x9.length:Int) (F119_2_B a0 a2 a3 v18_1 x7 x9) (F119_2_D a0 a2 a3 v18_1 x7 x9) s=some t){e:Env}{h:Heap}(hI:I119_2 a0 a2 a3 v18_1 x7 x9 lo s e h):W A c119_2 e h (P119_2 a0 a2 a3 v18_1 x7 x9 t):=by
 show W A (.block 2 (.loop false b119_2)) e h _;rw[qi];refine qr hF 1 (by obtain⟨_,_,rfl,_⟩:=hI; rfl) (I119_2 a0 a2 a3 v18_1 x7 x9) hI ?_ ?_
 ·rintro v28_2 o0_2 e h ⟨u12,k13,rfl,h_11⟩ hlt hw o ho
  unfold F119_2_B at ho;obtain⟨x15,gx15,ho⟩:=bS ho;obtain⟨w16a,w16b⟩:=ql gx15;obtain⟨x17,gx17,ho⟩:=bS ho;obtain⟨w18a,w18b⟩:=ql gx17;have w18c:=qV gx17;have w18d:List.drop (Int.toNat v28_2) (o0_2.map Enc.enc)=(V.int .i64 x17)::List.drop ((Int.toNat v28_2)+1) (o0_2.map Enc.enc):=jO w18b;obtain⟨x19,gx19,ho⟩:=bS ho;have wx19:=qx gx19;obtain⟨x20,gx20,ho⟩:=bS ho;have wx20:=qx gx20;obtain⟨x21,gx21,ho⟩:=bS ho;obtain⟨w22a,w22b⟩:=rem_w gx21;obtain⟨l23,gl23,ho⟩:=bS ho;obtain⟨w24a,w24b,w24c,w24d,w24e⟩:=xr gl23;replace w24e:List.take (Int.toNat v28_2) (o0_2.map Enc.enc)++[V.int .i64 x21]++List.drop (Int.toNat v28_2+1) (o0_2.map Enc.enc)=List.map Enc.enc l23:=w24e;cases ho;simp only[simprocAttr,R0,b119_2, *];refine ai rfl (ei _ (ei _ (ai rfl ?_)));simp only[simprocAttr,R0, *]
 ·rintro v28_2 o0_2 e h ⟨u12,k13,rfl,h_11⟩ hge t1 ho
  unfold F119_2_D at ho;cases ho;simp only[simprocAttr,R0,b119_2, *];intro ht; subst ht;refine ai rfl (ei _ (ei _ (ai rfl ?_)));simp only[simprocAttr,R0, *]
def I119_1(a0:Int)(a2:List Int)(a3:List (List Int))(v18_1:Int)(o0_1:(List Int))(e:Env)(h:Heap):Prop:=
 ∃u4 k5:Nat,h=⟨[(u4,some (o0_1.map Enc.enc))],k5⟩∧e.length=49∧e.at 0=V.int .i64 a0∧e.at 3=V.isl (a3.map Enc.enc)∧e.at 9=V.sl 0 u4 0 o0_1.length 1∧e.at 16=V.isl (a2.map Enc.enc)∧e.at 17=V.int .i64 (a2.length:Int)∧e.at 18=V.int .i64 v18_1
def P119_1(a0:Int)(a2:List Int)(a3:List (List Int))(zo0_1:(List Int))(x:Ex)(e:Env)(h:Heap):Prop:=
 x= .normal∧∃u4 k5:Nat,h=⟨[(u4,some (zo0_1.map Enc.enc))],k5⟩∧e.length=49∧e.at 9=V.sl 0 u4 0 zo0_1.length 1
theorem l119_1(a0:Int)(a2:List Int)(a3:List (List Int)){lo:Int}{s:(List Int)}{t:(List Int)}(hF:forR lo (a2.length:Int) (F119_1_B a0 a2 a3) (F119_1_D a0 a2 a3) s=some t){e:Env}{h:Heap}(hI:I119_1 a0 a2 a3 lo s e h):W A c119_1 e h (P119_1 a0 a2 a3 t):=by
 show W A (.block 0 (.loop false b119_1)) e h _;rw[qi];refine qr hF 1 (by obtain⟨_,_,rfl,_⟩:=hI; rfl) (I119_1 a0 a2 a3) hI ?_ ?_
 ·rintro v18_1 o0_1 e h ⟨u4,k5,rfl,h_3⟩ hlt hw o ho
  unfold F119_1_B at ho;obtain⟨x7,gx7,ho⟩:=bS ho;obtain⟨w8a,w8b⟩:=ql gx7;obtain⟨x9,gx9,ho⟩:=bS ho;obtain⟨w10a,w10b⟩:=ql gx9;obtain⟨zo0_2,gt25,ho⟩:=bS ho;simp only[simprocAttr,R0,b119_1, *];refine W.mono (l119_2 a0 a2 a3 v18_1 x7 x9 gt25 (ei _ (ei _ (ai rfl ?_)))) ?_
  ·simp only[simprocAttr,R0, *]
  rintro _ e _ ⟨rfl,u12,k13,rfl,h_14⟩;cases ho;simp only[simprocAttr,R0, *];refine ai rfl (ei _ (ei _ (ai rfl ?_)));simp only[simprocAttr,R0, *]
 ·rintro v18_1 o0_1 e h ⟨u4,k5,rfl,h_3⟩ hge t1 ho
  unfold F119_1_D at ho;cases ho;simp only[simprocAttr,R0,b119_1, *];intro ht; subst ht;refine ai rfl (ei _ (ei _ (ai rfl ?_)));simp only[simprocAttr,R0, *]
theorem s119(a0:Int)(a1:Int)(a2:List Int)(a3:List (List Int)){r:List Int}(hF:F119 a0 a1 a2 a3=some r):ans A 119 [V.int .i64 a0,V.int .i64 a1,V.isl (a2.map Enc.enc),V.isl (a3.map Enc.enc)]=some (Enc.enc r):=by
 refine qu (f:=p119) rfl rfl rfl fun e hl he=>?_;have h0_0:e.at 0=V.int .i64 a0:=he 0 _ rfl;have h1_0:e.at 1=V.int .i64 a1:=he 1 _ rfl;have h2_0:e.at 2=V.isl (a2.map Enc.enc):=he 2 _ rfl;have h3_0:e.at 3=V.isl (a3.map Enc.enc):=he 3 _ rfl;have hl_0:e.length=49:=hl;clear he hl;show W A b119 e ⟨[],0⟩ _;unfold F119 at hF;obtain⟨l1,gl1,hF⟩:=bS hF;obtain⟨w2a,w2b,w2c,w2d,w2e⟩:=mkL_w gl1;replace w2e:(List.replicate (Int.toNat a1) [V.int .i64 0]).flatten=List.map Enc.enc l1:=w2e;obtain⟨zo0_1,gt26,hF⟩:=bS hF;simp only[simprocAttr, -Int.reduceNatCast',R0,b119, *];refine W.mono (l119_1 a0 a2 a3 gt26 (ei _ (ei _ (ai rfl ?_)))) ?_
 ·simp only[simprocAttr, -Int.reduceNatCast',R0, *]
 rintro _ e _ ⟨rfl,u4,k5,rfl,hl_6,h9_6⟩;have hE:=wA hF; subst hE;simp only[simprocAttr, -Int.reduceNatCast',R0, *];exact qd (by simp only[simprocAttr, -Int.reduceNatCast',R0,qe,p119,Rs.ev,qa,frzs (α:=Int) zo0_1,qO (α:=Int) zo0_1, *])
def F91(a0:qh)(a1:Int)(a2:List Int):Option (List Int):=
 if a1≤0 then
  some ([]:List Int)
 else
  (F86 a0).bind fun x2=>
  if x2 < a1 then
   some ([]:List Int)
  else
   (chk (a1 - 1)).bind fun x5=>
   (getI a0.Dims x5).bind fun x6=>
   (getI a0.Maps x5).bind fun x8=>
   (F119 a0.Prime x6 a2 x8).bind fun x10=>
   some x10
theorem s91(a0:qh)(a1:Int)(a2:List Int){r:List Int}(hF:F91 a0 a1 a2=some r):ans A 91 [(eC a0),V.int .i64 a1,V.isl (a2.map Enc.enc)]=some (Enc.enc r):=by
 refine qu (f:=p91) rfl rfl rfl fun e hl he=>?_;have h0_0:e.at 0=(eC a0):=he 0 _ rfl;have h1_0:e.at 1=V.int .i64 a1:=he 1 _ rfl;have h2_0:e.at 2=V.isl (a2.map Enc.enc):=he 2 _ rfl;have hl_0:e.length=31:=hl;clear he hl;have h_0:=ai hl_0 (ai h0_0 (ai h1_0 h2_0));show W A b91 e ⟨[],0⟩ _;unfold F91 at hF;by_cases c1:a1≤0
 ·rw[if_pos c1]at hF
  cases hF;simp only[simprocAttr,R0,b91, *];exact qd (by simp only[simprocAttr,R0,qe,p91,Rs.ev,qa, *])
 ·rw[if_neg c1]at hF
  obtain⟨x2,gx2,hF⟩:=bS hF;have w3:=s86 a0 gx2;by_cases c4:x2 < a1
  ·rw[if_pos c4]at hF
   cases hF;simp only[simprocAttr,R0,b91, *];exact qd (by simp only[simprocAttr,R0,qe,p91,Rs.ev,qa, *])
  ·rw[if_neg c4]at hF
   obtain⟨x5,gx5,hF⟩:=bS hF;have wx5:=qx gx5;obtain⟨x6,gx6,hF⟩:=bS hF;obtain⟨w7a,w7b⟩:=ql gx6;obtain⟨x8,gx8,hF⟩:=bS hF;obtain⟨w9a,w9b⟩:=ql gx8;obtain⟨x10,gx10,hF⟩:=bS hF;have w11:=s119 a0.Prime x6 a2 x8 gx10;cases hF;simp only[simprocAttr,R0,b91, *];exact qd (by simp only[simprocAttr,R0,qe,p91,Rs.ev,qa, *])
def F118(a0:Int):Option Bool:=
 some (!(decide (a0=0)))
theorem s118(a0:Int){r:Bool}(hF:F118 a0=some r):ans A 118 [V.int .i64 a0]=some (Enc.enc r):=by
 refine qu (f:=p118) rfl rfl rfl fun e hl he=>?_;have h0_0:e.at 0=V.int .i64 a0:=he 0 _ rfl;have hl_0:e.length=5:=hl;clear he hl;show W A b118 e ⟨[],0⟩ _;unfold F118 at hF;cases hF;simp only[simprocAttr,R0,b118, *];exact qd (by simp only[simprocAttr,R0,qe,p118,Rs.ev,qa, *])
def F92(a0:List Int):Option Bool:=
 (F82 a0 (fun x=> F118 x)).bind fun x1=>
 some (!x1)
theorem s92(a0:List Int){r:Bool}(hF:F92 a0=some r):ans A 92 [V.isl (a0.map Enc.enc)]=some (Enc.enc r):=by
 refine qu (f:=p92) rfl rfl rfl fun e hl he=>?_;have h0_0:e.at 0=V.isl (a0.map Enc.enc):=he 0 _ rfl;have hl_0:e.length=6:=hl;clear he hl;show W A b92 e ⟨[],0⟩ _;unfold F92 at hF;obtain⟨x1,gx1,hF⟩:=bS hF;have w2:ans A 82 [V.isl (a0.map Enc.enc),V.fn 118 [] []]=some (V.bool x1):=s82 a0 (fun x=> F118 x) (Clo1.of (by intro h f; simp only[RZ,mapO]) (by intro h f; simp only[RZ,mapO]) (by intro f; simp only[RZ,RB]) (by intro f; simp only[RZ,RB]) (fun x _ hr=> s118 x hr)) gx1;cases hF;simp only[simprocAttr,R0,b92, *];exact qd (by simp only[simprocAttr,R0,qe,p92,Rs.ev,qa, *])
def F42_1_B(a0:qh)(v34_1:Int)(s:Unit):Option ((Unit)⊕((Unit)⊕Bool)):=
 (getI a0.Maps v34_1).bind fun x15=>
(getI a0.Dims (v34_1+1)).bind fun x19=>
if(x15.length:Int)=x19 then
 (getI a0.Dims v34_1).bind fun x22=>
 (F90 a0.Prime x22 x15).bind fun x24=>
 if x24=true then
  some (.inl ())
 else
  some (.inr (.inr false))
else
 some (.inr (.inr false))
def F42_1_D(a0:qh)(v34_1:Int)(s:Unit):Option ((Unit)⊕Bool):=
 some (.inl ())
def F42_3_B(a0:qh)(v5_2:Int)(x34:List (List Int))(v74_3:Int)(s:Unit):Option ((Unit)⊕((Unit)⊕Bool)):=
 (getI x34 v74_3).bind fun x39=>
(chk (v5_2 - 1)).bind fun x41=>
(F91 a0 x41 x39).bind fun x42=>
(F92 x42).bind fun x44=>
if x44=true then
 some (.inl ())
else
 some (.inr (.inr false))
def F42_3_D(a0:qh)(v5_2:Int)(x34:List (List Int))(v74_3:Int)(s:Unit):Option ((Unit)⊕Bool):=
 some (.inl ())
def F42_2_S(a0:qh)(v5_2:Int):Option ((Int)⊕((Unit)⊕Bool)):=
 (F86 a0).bind fun x30=>
if v5_2≤x30 then
 (chk (v5_2 - 1)).bind fun x33=>
 (getI a0.Maps x33).bind fun x34=>
 (forR 0 (x34.length:Int) (F42_3_B a0 v5_2 x34) (F42_3_D a0 v5_2 x34) ()).bind fun t46=> match t46 with
  | .inl _=>
   (chk (v5_2+1)).bind fun x47=>
   some (.inl x47)
  | .inr r48=> some (.inr (.inr r48))
else
 some (.inr (.inl ()))
def F42(a0:qh):Option Bool:=
 (F67 a0.Prime).bind fun x1=>
 if x1=true then
  (F86 a0).bind fun x3=>
  (F56 x3 0 5).bind fun x5=>
  if x5=true then
   if(a0.Maps.length:Int)=x3 then
    (F82 a0.Dims (fun x=> F88 x)).bind fun x10=>
    if x10=true then
     some false
    else
     (forR 0 (a0.Maps.length:Int) (F42_1_B a0) (F42_1_D a0) ()).bind fun t26=> match t26 with
      | .inl _=>
       (zD (F42_2_S a0) 2).bind fun t49=> match t49 with
        | .inl _=>
         some true
        | .inr r50=> some r50
      | .inr r51=> some r51
   else
    some false
  else
   some false
 else
  some false
def I42_1(a0:qh)(v34_1:Int)(s:Unit)(e:Env)(h:Heap):Prop:=
 ∃k13:Nat,h=⟨[(0,none)],k13⟩∧e.length=86∧e.at 1=V.iptr [V.int .i64 a0.Prime,V.isl (a0.Dims.map Enc.enc),V.isl (a0.Maps.map Enc.enc)]∧e.at 32=V.isl (a0.Maps.map Enc.enc)∧e.at 33=V.int .i64 (a0.Maps.length:Int)∧e.at 34=V.int .i64 v34_1
def P42_1(a0:qh)(t:(Unit)⊕Bool)(x:Ex)(e:Env)(h:Heap):Prop:=
 match t with
 | .inl _=> x= .normal∧∃k13:Nat,h=⟨[(0,none)],k13⟩∧e.length=86∧e.at 1=V.iptr [V.int .i64 a0.Prime,V.isl (a0.Dims.map Enc.enc),V.isl (a0.Maps.map Enc.enc)]
 | .inr r=> x= .ret∧Fin p42 (Enc.enc r) .ret e h
theorem l42_1(a0:qh){lo:Int}{s:Unit}{t:(Unit)⊕Bool}(hF:forR lo (a0.Maps.length:Int) (F42_1_B a0) (F42_1_D a0) s=some t){e:Env}{h:Heap}(hI:I42_1 a0 lo s e h):W A c42_1 e h (P42_1 a0 t):=by
 show W A (.block 0 (.loop false b42_1)) e h _;rw[qi];refine qr hF 1 (by obtain⟨_,rfl,_⟩:=hI; rfl) (I42_1 a0) hI ?_ ?_
 ·rintro v34_1 _ e h ⟨k13,rfl,h_12⟩ hlt hw o ho
  unfold F42_1_B at ho;obtain⟨x15,gx15,ho⟩:=bS ho;obtain⟨w16a,w16b⟩:=ql gx15;have w18:=s89 x15 rfl;obtain⟨x19,gx19,ho⟩:=bS ho;obtain⟨w20a,w20b⟩:=ql gx19;by_cases c21:(x15.length:Int)=x19
  ·rw[if_pos c21]at ho
   obtain⟨x22,gx22,ho⟩:=bS ho;obtain⟨w23a,w23b⟩:=ql gx22;obtain⟨x24,gx24,ho⟩:=bS ho;have w25:=s90 a0.Prime x22 x15 gx24;cases x24 with
   |true=>
    rw[if_pos rfl]at ho;cases ho;simp only[simprocAttr,R0,b42_1, *];refine ai rfl (ei _ (ai rfl ?_));simp only[simprocAttr,R0, *]
   |false=>
    rw[if_neg wC]at ho;cases ho;simp only[simprocAttr,R0,b42_1, *];intro ht; subst ht;simp only[simprocAttr,RR,RB];exact ai rfl (qd (by simp only[simprocAttr,R0,qe,p42,Rs.ev,qa, *]))
  ·rw[if_neg c21]at ho
   cases ho;simp only[simprocAttr,R0,b42_1, *];intro ht; subst ht;simp only[simprocAttr,RR,RB];exact ai rfl (qd (by simp only[simprocAttr,R0,qe,p42,Rs.ev,qa, *]))
 ·rintro v34_1 _ e h ⟨k13,rfl,h_12⟩ hge t1 ho
  unfold F42_1_D at ho;cases ho;simp only[simprocAttr,R0,b42_1, *];intro ht; subst ht;refine ai rfl (ei _ (ai rfl ?_));simp only[simprocAttr,R0, *]
def I42_3(a0:qh)(v5_2:Int)(x34:List (List Int))(v74_3:Int)(s:Unit)(e:Env)(h:Heap):Prop:=
 ∃k37:Nat,h=⟨[(0,none)],k37⟩∧e.length=86∧e.at 1=V.iptr [V.int .i64 a0.Prime,V.isl (a0.Dims.map Enc.enc),V.isl (a0.Maps.map Enc.enc)]∧e.at 5=V.int .i64 v5_2∧e.at 72=V.isl (x34.map Enc.enc)∧e.at 73=V.int .i64 (x34.length:Int)∧e.at 74=V.int .i64 v74_3
def P42_3(a0:qh)(v5_2:Int)(x34:List (List Int))(t:(Unit)⊕Bool)(x:Ex)(e:Env)(h:Heap):Prop:=
 match t with
 | .inl _=> x= .normal∧∃k37:Nat,h=⟨[(0,none)],k37⟩∧e.length=86∧e.at 1=V.iptr [V.int .i64 a0.Prime,V.isl (a0.Dims.map Enc.enc),V.isl (a0.Maps.map Enc.enc)]∧e.at 5=V.int .i64 v5_2
 | .inr r=> x= .ret∧Fin p42 (Enc.enc r) .ret e h
theorem l42_3(a0:qh)(v5_2:Int)(x34:List (List Int)){lo:Int}{s:Unit}{t:(Unit)⊕Bool}(hF:forR lo (x34.length:Int) (F42_3_B a0 v5_2 x34) (F42_3_D a0 v5_2 x34) s=some t){e:Env}{h:Heap}(hI:I42_3 a0 v5_2 x34 lo s e h):W A c42_3 e h (P42_3 a0 v5_2 x34 t):=by
 show W A (.block 4 (.loop false b42_3)) e h _;rw[qi];refine qr hF 1 (by obtain⟨_,rfl,_⟩:=hI; rfl) (I42_3 a0 v5_2 x34) hI ?_ ?_
 ·rintro v74_3 _ e h ⟨k37,rfl,h_36⟩ hlt hw o ho
  unfold F42_3_B at ho;obtain⟨x39,gx39,ho⟩:=bS ho;obtain⟨w40a,w40b⟩:=ql gx39;obtain⟨x41,gx41,ho⟩:=bS ho;have wx41:=qx gx41;obtain⟨x42,gx42,ho⟩:=bS ho;have w43:=s91 a0 x41 x39 gx42;obtain⟨x44,gx44,ho⟩:=bS ho;have w45:=s92 x42 gx44;cases x44 with
  |true=>
   rw[if_pos rfl]at ho;cases ho;simp only[simprocAttr,R0,b42_3, *];refine ai rfl (ei _ (ai rfl ?_));simp only[simprocAttr,R0, *]
  |false=>
   rw[if_neg wC]at ho;cases ho;simp only[simprocAttr,R0,b42_3, *];intro ht; subst ht;simp only[simprocAttr,RR,RB];exact ai rfl (qd (by simp only[simprocAttr,R0,qe,p42,Rs.ev,qa, *]))
 ·rintro v74_3 _ e h ⟨k37,rfl,h_36⟩ hge t1 ho
  unfold F42_3_D at ho;cases ho;simp only[simprocAttr,R0,b42_3, *];intro ht; subst ht;refine ai rfl (ei _ (ai rfl ?_));simp only[simprocAttr,R0, *]
def I42_2(a0:qh)(v5_2:Int)(e:Env)(h:Heap):Prop:=
 ∃k28:Nat,h=⟨[(0,none)],k28⟩∧e.length=86∧e.at 1=V.iptr [V.int .i64 a0.Prime,V.isl (a0.Dims.map Enc.enc),V.isl (a0.Maps.map Enc.enc)]∧e.at 5=V.int .i64 v5_2
def P42_2(a0:qh)(t:(Unit)⊕Bool)(x:Ex)(e:Env)(h:Heap):Prop:=
 match t with
 | .inl _=> x= .normal∧∃k28:Nat,h=⟨[(0,none)],k28⟩∧e.length=86
 | .inr r=> x= .ret∧Fin p42 (Enc.enc r) .ret e h
theorem l42_2(a0:qh){s:Int}{t:(Unit)⊕Bool}(hF:zD (F42_2_S a0) s=some t){e:Env}{h:Heap}(hI:I42_2 a0 s e h):W A c42_2 e h (P42_2 a0 t):=by
 show W A (.block 2 (.loop false b42_2)) e h _;rw[qi];refine W_loop hF 1 (by obtain⟨_,rfl,_⟩:=hI; rfl) (I42_2 a0) hI ?_
 ·rintro v5_2 e h ⟨k28,rfl,h_27⟩ o ho
  unfold F42_2_S at ho;obtain⟨x30,gx30,ho⟩:=bS ho;have w31:=s86 a0 gx30;by_cases c32:v5_2≤x30
  ·rw[if_pos c32]at ho
   obtain⟨x33,gx33,ho⟩:=bS ho;have wx33:=qx gx33;obtain⟨x34,gx34,ho⟩:=bS ho;obtain⟨w35a,w35b⟩:=ql gx34;obtain⟨t46,gt46,ho⟩:=bS ho;rcases t46 with _|r48
   ·dsimp only at ho
    simp only[simprocAttr,R0,b42_2, *];refine W.mono (l42_3 a0 v5_2 x34 gt46 (ei _ (ai rfl ?_))) ?_
    ·simp only[simprocAttr,R0, *]
    rintro _ e _ ⟨rfl,k37,rfl,h_38⟩;obtain⟨x47,gx47,ho⟩:=bS ho;have wx47:=qx gx47;cases ho;simp only[simprocAttr,R0, *];refine ai rfl (ei _ (ai rfl ?_));simp only[simprocAttr,R0, *]
   ·dsimp only at ho
    cases ho;simp only[simprocAttr,R0,b42_2, *];refine W.mono (l42_3 a0 v5_2 x34 gt46 (ei _ (ai rfl ?_))) ?_
    ·simp only[simprocAttr,R0, *]
    rintro _ e h ⟨rfl,hq⟩;simp only[simprocAttr,RR,RB];intro ht; subst ht;simp only[simprocAttr,RR,RB];exact ai rfl hq
  ·rw[if_neg c32]at ho
   cases ho;simp only[simprocAttr,R0,b42_2, *];intro ht; subst ht;simp only[simprocAttr,RR,RB];refine ai rfl (ei _ (ai rfl ?_));simp only[simprocAttr,R0, *]
set_option maxHeartbeats 8000000 in
theorem s42(a0:qh){r:Bool}(hF:F42 a0=some r):ans A 42 [(eC a0)]=some (Enc.enc r):=by
 refine qu (f:=p42) rfl rfl rfl fun e hl he=>?_;have h0_0:e.at 0=(eC a0):=he 0 _ rfl;have hl_0:e.length=86:=hl;clear he hl;have h_0:=ai hl_0 h0_0;show W A b42 e ⟨[],0⟩ _;unfold F42 at hF;obtain⟨x1,gx1,hF⟩:=bS hF;have w2:ans A 67 [V.int .i64 a0.Prime]=some (V.bool x1):=s67 a0.Prime gx1;cases x1 with
 |true=>
  rw[if_pos rfl]at hF;obtain⟨x3,gx3,hF⟩:=bS hF;have w4:ans A 86 [(eC a0)]=some (V.int .i64 x3):=s86 a0 gx3;obtain⟨x5,gx5,hF⟩:=bS hF;have w6:ans A 56 [V.int .i64 x3,V.int .i64 0,V.int .i64 5]=some (V.bool x5):=s56 x3 0 5 gx5;cases x5 with
  |true=>
   rw[if_pos rfl]at hF;have w8:ans A 87 [V.isl (a0.Maps.map Enc.enc)]=some (V.int .i64 (a0.Maps.length:Int)):=s87 a0.Maps rfl;by_cases c9:(a0.Maps.length:Int)=x3
   ·rw[if_pos c9]at hF
    obtain⟨x10,gx10,hF⟩:=bS hF;have w11:ans A 82 [V.isl (a0.Dims.map Enc.enc),V.fn 88 [] []]=some (V.bool x10):=s82 a0.Dims (fun x=> F88 x) (Clo1.of (by intro h f; simp only[RZ,mapO]) (by intro h f; simp only[RZ,mapO]) (by intro f; simp only[RZ,RB]) (by intro f; simp only[RZ,RB]) (fun x _ hr=> s88 x hr)) gx10;cases x10 with
    |true=>
     rw[if_pos rfl]at hF;cases hF;simp only[simprocAttr,R0,b42, *];exact qd (by simp only[simprocAttr,R0,qe,p42,Rs.ev,qa, *])
    |false=>
     rw[if_neg wC]at hF;obtain⟨t26,gt26,hF⟩:=bS hF;rcases t26 with _|r51
     ·dsimp only at hF
      simp only[simprocAttr,R0,b42, *];refine W.mono (l42_1 a0 gt26 (ei _ (ai rfl ?_))) ?_
      ·simp only[simprocAttr,R0, *]
      rintro _ e _ ⟨rfl,k13,rfl,h_14⟩;obtain⟨t49,gt49,hF⟩:=bS hF;rcases t49 with _|r50
      ·dsimp only at hF
       simp only[simprocAttr,R0, *];refine W.mono (l42_2 a0 gt49 (ei _ (ai rfl ?_))) ?_
       ·simp only[simprocAttr,R0, *]
       rintro _ e _ ⟨rfl,k28,rfl,hl_29⟩;cases hF;simp only[simprocAttr,R0, *];exact qd (by simp only[simprocAttr,R0,qe,p42,Rs.ev,qa, *])
      ·dsimp only at hF
       cases hF;simp only[simprocAttr,R0, *];refine W.mono (l42_2 a0 gt49 (ei _ (ai rfl ?_))) ?_
       ·simp only[simprocAttr,R0, *]
       rintro _ e h ⟨rfl,hq⟩;simp only[simprocAttr,RR,RB];exact hq
     ·dsimp only at hF
      cases hF;simp only[simprocAttr,R0,b42, *];refine W.mono (l42_1 a0 gt26 (ei _ (ai rfl ?_))) ?_
      ·simp only[simprocAttr,R0, *]
      rintro _ e h ⟨rfl,hq⟩;simp only[simprocAttr,RR,RB];exact hq
   ·rw[if_neg c9]at hF
    cases hF;simp only[simprocAttr,R0,b42, *];exact qd (by simp only[simprocAttr,R0,qe,p42,Rs.ev,qa, *])
  |false=>
   rw[if_neg wC]at hF;cases hF;simp only[simprocAttr,R0,b42, *];exact qd (by simp only[simprocAttr,R0,qe,p42,Rs.ev,qa, *])
 |false=>
  rw[if_neg wC]at hF;cases hF;simp only[simprocAttr,R0,b42, *];exact qd (by simp only[simprocAttr,R0,qe,p42,Rs.ev,qa, *])
def F83(a0:Int):Option Bool:=
 (F56 a0 0 5).bind fun x1=>
 some (!x1)
theorem s83(a0:Int){r:Bool}(hF:F83 a0=some r):ans A 83 [V.int .i64 a0]=some (Enc.enc r):=by
 refine qu (f:=p83) rfl rfl rfl fun e hl he=>?_;have h0_0:e.at 0=V.int .i64 a0:=he 0 _ rfl;have hl_0:e.length=6:=hl;clear he hl;show W A b83 e ⟨[],0⟩ _;unfold F83 at hF;obtain⟨x1,gx1,hF⟩:=bS hF;have w2:=s56 a0 0 5 gx1;cases hF;simp only[simprocAttr,R0,b83, *];exact qd (by simp only[simprocAttr,R0,qe,p83,Rs.ev,qa, *])
def F84(a0:Int)(a1:Int)(a2:Int)(a3:Int)(d0:Bool)(d1:qc):Option Bool:=
 if d0=true then
  if a3=0 then
   some true
  else
   (chk (a0 - 1)).bind fun x2=>
   (getI d1.Levels x2).bind fun x3=>
   (getI x3 a2).bind fun x5=>
   (getI d1.Levels a0).bind fun x7=>
   (getI x7 a1).bind fun x9=>
   some (decide (x5≤x9))
 else
  some false
theorem q84(r0:Nat×Option (List V))(r1:Nat×Option (List V))(uid clk:Nat)(G:List (Nat×Option (List V)))(a0:Int)(a1:Int)(a2:Int)(a3:Int)(d0:Bool)(d1:qc){r:Bool}(hF:F84 a0 a1 a2 a3 d0 d1=some r):res A 84 [V.int .i64 a0,V.int .i64 a1,V.int .i64 a2,V.int .i64 a3,V.ptr 2 uid 0,V.iptr [V.int .i64 d1.Complex.Prime,V.isl (d1.Complex.Dims.map Enc.enc),V.isl (d1.Complex.Maps.map Enc.enc),V.isl (d1.Levels.map Enc.enc)]] ⟨r0::r1::(uid,some [V.bool d0])::G,clk⟩=some (V.undef,⟨r0::r1::(uid,some [V.bool r])::G,clk⟩):=by
 refine res_of (f:=p84) rfl rfl rfl fun e hl he=>?_;have h0_0:e.at 0=V.int .i64 a0:=he 0 _ rfl;have h1_0:e.at 1=V.int .i64 a1:=he 1 _ rfl;have h2_0:e.at 2=V.int .i64 a2:=he 2 _ rfl;have h3_0:e.at 3=V.int .i64 a3:=he 3 _ rfl;have h4_0:e.at 4=V.ptr 2 uid 0:=he 4 _ rfl;have h5_0:e.at 5=V.iptr [V.int .i64 d1.Complex.Prime,V.isl (d1.Complex.Dims.map Enc.enc),V.isl (d1.Complex.Maps.map Enc.enc),V.isl (d1.Levels.map Enc.enc)]:=he 5 _ rfl;have hl_0:e.length=35:=hl;clear he hl;have h_0:=ai hl_0 (ai h0_0 (ai h1_0 (ai h2_0 (ai h3_0 (ai h4_0 h5_0)))));show W A b84 e _ _;unfold F84 at hF;cases d0 with
 |true=>
  rw[if_pos rfl]at hF;by_cases c1:a3=0
  ·rw[if_pos c1]at hF
   cases hF;simp only[simprocAttr,R0,b84, *];refine rfin_normal ?_ ?_
   ·simp only[simprocAttr,R0,qe,p84,mapO]; rfl
   ·simp only[simprocAttr,R0, *]
  ·rw[if_neg c1]at hF
   obtain⟨x2,gx2,hF⟩:=bS hF;have wx2:=qx gx2;obtain⟨x3,gx3,hF⟩:=bS hF;obtain⟨w4a,w4b⟩:=ql gx3;obtain⟨x5,gx5,hF⟩:=bS hF;obtain⟨w6a,w6b⟩:=ql gx5;obtain⟨x7,gx7,hF⟩:=bS hF;obtain⟨w8a,w8b⟩:=ql gx7;obtain⟨x9,gx9,hF⟩:=bS hF;obtain⟨w10a,w10b⟩:=ql gx9;cases hF;simp only[simprocAttr,R0,b84, *];refine rfin_normal ?_ ?_
   ·simp only[simprocAttr,R0,qe,p84,mapO]; rfl
   ·simp only[simprocAttr,R0, *]
 |false=>
  rw[if_neg wC]at hF;cases hF;simp only[simprocAttr,R0,b84, *];refine rfin_normal ?_ ?_
  ·simp only[simprocAttr,R0,qe,p84,mapO]; rfl
  ·simp only[simprocAttr,R0, *]
def F85{σ:Type}(ms:List (List (List Int)))(f:Int→Int→Int→Int→σ→Option σ)(s:σ):Option σ:=
 forR 0 (ms.length:Int) (fun k s=>(getI ms k).bind fun rows=>(forR 0 (rows.length:Int) (fun i s=>(getI rows i).bind fun row=>
  (forR 0 (row.length:Int) (fun j s=>(getI row j).bind fun v=>(chk (k+1)).bind fun n=>(f n i j v s).bind fun s'=> some (.inl s')) (fun _ s=> some s) s).bind fun s'=> some (.inl s')) (fun _ s=> some s) s).bind fun s'=> some (.inl s')) (fun _ s=> some s) s
structure Step4 (g:Nat) (fs cs:List V) {σ:Type} (S:σ→List (Nat×Option (List V))→Prop) (f:Int→Int→Int→Int→σ→Option σ):Prop where
 call:∀n r p v s s',f n r p v s=some s'→∀E c,S s E→∃E' c',res A g (fs++[V.int .i64 n,V.int .i64 r,V.int .i64 p,V.int .i64 v]++cs) ⟨E,c⟩=some (V.undef,⟨E',c'⟩)∧S s' E'
 pad:∀s E x,S s E→S s (E++[x])
set_option maxHeartbeats 8000000 in
theorem e85{g:Nat}{fs cs:List V}{σ:Type}{S:σ→List (Nat×Option (List V))→Prop}{f:Int→Int→Int→Int→σ→Option σ}(st:Step4 g fs cs S f)(x:qh){s s':σ}(hF:F85 x.Maps f s=some s')(E:List (Nat×Option (List V)))(c:Nat)(hS:S s E):
  ∃h',res A 85 [V.agg [V.int .i64 x.Prime,V.isl (List.map Enc.enc x.Dims),V.isl (List.map Enc.enc x.Maps)],V.fn g fs cs] ⟨E,c⟩=some (V.undef,h')∧S s' h'.ents:=by
 refine res_ex (f:=p85) rfl rfl rfl fun e hl he=>?_;have h0:e.at 0=V.agg [V.int .i64 x.Prime,V.isl (List.map Enc.enc x.Dims),V.isl (List.map Enc.enc x.Maps)]:=he 0 _ rfl;have h1:e.at 1=V.fn g fs cs:=he 1 _ rfl;have hl_0:e.length=42:=hl;clear he hl;show W A b85 e ⟨E,c⟩ _;unfold F85 at hF;simp only[simprocAttr, -Int.reduceNatCast',R0,b85,h0,h1,qR,set_last, *];show W A (.block 0 (.loop true b85_1)) _ _ _;rw[qi];refine qr hF _ rfl (fun i s e h=> S s h.ents∧e.length=42∧e.at 1=V.fn g fs cs∧e.at 11=V.isl (List.map Enc.enc x.Maps)∧e.at 12=V.int .i64 (x.Maps.length:Int)∧e.at 13=V.int .i64 i) ?_ ?_ ?_
 ·refine ai (st.pad _ _ _ hS) ?_
  simp only[simprocAttr, -Int.reduceNatCast',R0,h0,h1, *]
 ·rintro i s e ⟨E,c⟩ ⟨hS,hl_1,h1_1,h11_1,h12_1,h13_1⟩ hlt hw o ho
  obtain⟨rows,g1,ho⟩:=bS ho;obtain⟨w1a,w1b⟩:=ql g1;obtain⟨z,g2,ho⟩:=bS ho;have hE:=wA ho; subst hE;simp only[simprocAttr, -Int.reduceNatCast',R0,b85_1, *];refine W.mono (Q:=fun x' e h=> x'= .normal∧S z h.ents∧e.length=42∧e.at 1=V.fn g fs cs∧e.at 11=V.isl (List.map Enc.enc x.Maps)∧e.at 12=V.int .i64 (x.Maps.length:Int)∧e.at 13=V.int .i64 i) ?_ ?_
  rotate_left
  ·rintro _ e ⟨E2,c2⟩ ⟨rfl,hS2,hl_2,h1_2,h11_2,h12_2,h13_2⟩
   simp only[simprocAttr, -Int.reduceNatCast',R0, *];refine ai rfl (ai hS2 ?_);simp only[simprocAttr, -Int.reduceNatCast',R0, *]
  show W A (.block 2 (.loop true b85_2)) _ _ _;rw[qi];refine qr g2 _ rfl (fun j s e h=> S s h.ents∧e.length=42∧e.at 1=V.fn g fs cs∧e.at 11=V.isl (List.map Enc.enc x.Maps)∧e.at 12=V.int .i64 (x.Maps.length:Int)∧e.at 13=V.int .i64 i∧e.at 4=V.int .i64 i∧e.at 18=V.isl (List.map Enc.enc rows)∧e.at 19=V.int .i64 (rows.length:Int)∧e.at 20=V.int .i64 j) ?_ ?_ ?_
  ·refine ai hS ?_
   simp only[simprocAttr, -Int.reduceNatCast',R0, *]
  ·clear hl_1 h1_1 h11_1 h12_1 h13_1
   rintro j s e ⟨E,c⟩ ⟨hS,hl_1,h1_1,h11_1,h12_1,h13_1,h4_1,h18_1,h19_1,h20_1⟩ hlt2 hw2 o ho;obtain⟨row,g3,ho⟩:=bS ho;obtain⟨w3a,w3b⟩:=ql g3;obtain⟨z2,g4,ho⟩:=bS ho;have hE:=wA ho; subst hE;simp only[simprocAttr, -Int.reduceNatCast',R0,b85_2, *];refine W.mono (Q:=fun x' e h=> x'= .normal∧S z2 h.ents∧e.length=42∧e.at 1=V.fn g fs cs∧e.at 11=V.isl (List.map Enc.enc x.Maps)∧e.at 12=V.int .i64 (x.Maps.length:Int)∧e.at 13=V.int .i64 i∧e.at 4=V.int .i64 i∧e.at 18=V.isl (List.map Enc.enc rows)∧e.at 19=V.int .i64 (rows.length:Int)∧e.at 20=V.int .i64 j) ?_ ?_
   rotate_left
   ·rintro _ e ⟨E2,c2⟩ ⟨rfl,hS2,hl_2,h1_2,h11_2,h12_2,h13_2,h4_2,h18_2,h19_2,h20_2⟩
    simp only[simprocAttr, -Int.reduceNatCast',R0, *];refine ai rfl (ai hS2 ?_);simp only[simprocAttr, -Int.reduceNatCast',R0, *]
   show W A (.block 4 (.loop true b85_3)) _ _ _;rw[qi];refine qr g4 _ rfl (fun k s e h=> S s h.ents∧e.length=42∧e.at 1=V.fn g fs cs∧e.at 11=V.isl (List.map Enc.enc x.Maps)∧e.at 12=V.int .i64 (x.Maps.length:Int)∧e.at 13=V.int .i64 i∧e.at 4=V.int .i64 i∧e.at 18=V.isl (List.map Enc.enc rows)∧e.at 19=V.int .i64 (rows.length:Int)∧e.at 20=V.int .i64 j∧e.at 6=V.int .i64 j∧e.at 25=V.isl (List.map Enc.enc row)∧e.at 26=V.int .i64 (row.length:Int)∧e.at 27=V.int .i64 k) ?_ ?_ ?_
   ·refine ai hS ?_
    simp only[simprocAttr, -Int.reduceNatCast',R0, *]
   ·clear hl_1 h1_1 h11_1 h12_1 h13_1 h4_1 h18_1 h19_1 h20_1
    rintro k s e ⟨E,c⟩ ⟨hS,hl_1,h1_1,h11_1,h12_1,h13_1,h4_1,h18_1,h19_1,h20_1,h6_1,h25_1,h26_1,h27_1⟩ hlt3 hw3 o ho;obtain⟨v,g5,ho⟩:=bS ho;obtain⟨w5a,w5b⟩:=ql g5;obtain⟨n,g6,ho⟩:=bS ho;have w6:=qx g6;obtain⟨s2,g7,ho⟩:=bS ho;have hE:=wA ho; subst hE;obtain⟨E2,c2,hr,hS2⟩:=st.call _ _ _ _ _ _ g7 E c hS;simp only[simprocAttr, -Int.reduceNatCast',R0,b85_3,hl_1,h1_1,h11_1,h12_1,h13_1,h4_1,h18_1,h19_1,h20_1,h6_1,h25_1,h26_1,h27_1,eq_true hlt3,hw3,w5a,w5b,w6,zj,wY]at hr ⊢;simp only[simprocAttr, -Int.reduceNatCast',R0,hr, *];refine ai rfl (ai hS2 ?_);simp only[simprocAttr, -Int.reduceNatCast',R0, *]
   ·clear hl_1 h1_1 h11_1 h12_1 h13_1 h4_1 h18_1 h19_1 h20_1
    rintro k s e ⟨E,c⟩ ⟨hS,hl_1,h1_1,h11_1,h12_1,h13_1,h4_1,h18_1,h19_1,h20_1,h6_1,h25_1,h26_1,h27_1⟩ hge t1 ho;have hE:=wA ho; subst hE;simp only[simprocAttr, -Int.reduceNatCast',R0,b85_3, *];intro ht; subst ht;exact hS
  ·clear hl_1 h1_1 h11_1 h12_1 h13_1
   rintro j s e ⟨E,c⟩ ⟨hS,hl_1,h1_1,h11_1,h12_1,h13_1,h4_1,h18_1,h19_1,h20_1⟩ hge t1 ho;have hE:=wA ho; subst hE;simp only[simprocAttr, -Int.reduceNatCast',R0,b85_2, *];intro ht; subst ht;exact hS
 ·rintro i s e ⟨E,c⟩ ⟨hS,hl_1,h1_1,h11_1,h12_1,h13_1⟩ hge t1 ho
  have hE:=wA ho; subst hE;simp only[simprocAttr, -Int.reduceNatCast',R0,b85_1, *];intro ht; subst ht;refine ai (fun i=> by simp only[ne_eq,reduceCtorEq,not_false_eq_true]) (ai ?_ hS);simp only[simprocAttr, -Int.reduceNatCast',R1,qe,p85,mapO];rfl
def F41_1_B(a0:qc)(v24_1:Int)(s:Unit):Option ((Unit)⊕((Unit)⊕Bool)):=
 (getI a0.Levels v24_1).bind fun x7=>
(getI a0.Complex.Dims v24_1).bind fun x11=>
if(x7.length:Int)=x11 then
 (F82 x7 (fun x=> F83 x)).bind fun x14=>
 if x14=true then
  some (.inr (.inr false))
 else
  some (.inl ())
else
 some (.inr (.inr false))
def F41_1_D(a0:qc)(v24_1:Int)(s:Unit):Option ((Unit)⊕Bool):=
 some (.inl ())
def F41(a0:qc):Option Bool:=
 (F42 a0.Complex).bind fun x1=>
 if x1=true then
  if(a0.Levels.length:Int)=(a0.Complex.Dims.length:Int)then
   (forR 0 (a0.Levels.length:Int) (F41_1_B a0) (F41_1_D a0) ()).bind fun t16=> match t16 with
    | .inl _=>
     (F85 a0.Complex.Maps (fun n r p v s=> F84 n r p v s a0) true).bind fun y17=>
     some y17
    | .inr r21=> some r21
  else
   some false
 else
  some false
def I41_1(a0:qc)(v24_1:Int)(s:Unit)(e:Env)(h:Heap):Prop:=
 ∃k5:Nat,h=⟨[(0,none),(1,some [V.int .i64 a0.Complex.Prime,V.isl (a0.Complex.Dims.map Enc.enc),V.isl (a0.Complex.Maps.map Enc.enc)])],k5⟩∧e.length=46∧e.at 1=V.iptr [V.int .i64 a0.Complex.Prime,V.isl (a0.Complex.Dims.map Enc.enc),V.isl (a0.Complex.Maps.map Enc.enc),V.isl (a0.Levels.map Enc.enc)]∧e.at 3=V.ptr 1 1 0∧e.at 22=V.isl (a0.Levels.map Enc.enc)∧e.at 23=V.int .i64 (a0.Levels.length:Int)∧e.at 24=V.int .i64 v24_1
def P41_1(a0:qc)(t:(Unit)⊕Bool)(x:Ex)(e:Env)(h:Heap):Prop:=
 match t with
 | .inl _=> x= .normal∧∃k5:Nat,h=⟨[(0,none),(1,some [V.int .i64 a0.Complex.Prime,V.isl (a0.Complex.Dims.map Enc.enc),V.isl (a0.Complex.Maps.map Enc.enc)])],k5⟩∧e.length=46∧e.at 1=V.iptr [V.int .i64 a0.Complex.Prime,V.isl (a0.Complex.Dims.map Enc.enc),V.isl (a0.Complex.Maps.map Enc.enc),V.isl (a0.Levels.map Enc.enc)]∧e.at 3=V.ptr 1 1 0
 | .inr r=> x= .ret∧Fin p41 (Enc.enc r) .ret e h
theorem l41_1(a0:qc){lo:Int}{s:Unit}{t:(Unit)⊕Bool}(hF:forR lo (a0.Levels.length:Int) (F41_1_B a0) (F41_1_D a0) s=some t){e:Env}{h:Heap}(hI:I41_1 a0 lo s e h):W A c41_1 e h (P41_1 a0 t):=by
 show W A (.block 0 (.loop false b41_1)) e h _;rw[qi];refine qr hF 2 (by obtain⟨_,rfl,_⟩:=hI; rfl) (I41_1 a0) hI ?_ ?_
 ·rintro v24_1 _ e h ⟨k5,rfl,h_4⟩ hlt hw o ho
  unfold F41_1_B at ho;obtain⟨x7,gx7,ho⟩:=bS ho;obtain⟨w8a,w8b⟩:=ql gx7;have w10:ans A 73 [V.isl (x7.map Enc.enc)]=some (V.int .i64 (x7.length:Int)):=s73 x7 rfl;obtain⟨x11,gx11,ho⟩:=bS ho;obtain⟨w12a,w12b⟩:=ql gx11;by_cases c13:(x7.length:Int)=x11
  ·rw[if_pos c13]at ho
   obtain⟨x14,gx14,ho⟩:=bS ho;have w15:ans A 82 [V.isl (x7.map Enc.enc),V.fn 83 [] []]=some (V.bool x14):=s82 x7 (fun x=> F83 x) (Clo1.of (by intro h f; simp only[RZ,mapO]) (by intro h f; simp only[RZ,mapO]) (by intro f; simp only[RZ,RB]) (by intro f; simp only[RZ,RB]) (fun x _ hr=> s83 x hr)) gx14;cases x14 with
   |true=>
    rw[if_pos rfl]at ho;cases ho;simp only[simprocAttr,R0,b41_1, *];intro ht; subst ht;simp only[simprocAttr,RR,RB];exact ai rfl (qd (by simp only[simprocAttr,R0,qe,p41,Rs.ev,qa, *]))
   |false=>
    rw[if_neg wC]at ho;cases ho;simp only[simprocAttr,R0,b41_1, *];refine ai rfl (ei _ (ai rfl ?_));simp only[simprocAttr,R0, *]
  ·rw[if_neg c13]at ho
   cases ho;simp only[simprocAttr,R0,b41_1, *];intro ht; subst ht;simp only[simprocAttr,RR,RB];exact ai rfl (qd (by simp only[simprocAttr,R0,qe,p41,Rs.ev,qa, *]))
 ·rintro v24_1 _ e h ⟨k5,rfl,h_4⟩ hge t1 ho
  unfold F41_1_D at ho;cases ho;simp only[simprocAttr,R0,b41_1, *];intro ht; subst ht;refine ai rfl (ei _ (ai rfl ?_));simp only[simprocAttr,R0, *]
theorem s41(a0:qc){r:Bool}(hF:F41 a0=some r):ans A 41 [(eF a0)]=some (Enc.enc r):=by
 refine qu (f:=p41) rfl rfl rfl fun e hl he=>?_;have h0_0:e.at 0=(eF a0):=he 0 _ rfl;have hl_0:e.length=46:=hl;clear he hl;have h_0:=ai hl_0 h0_0;show W A b41 e ⟨[],0⟩ _;unfold F41 at hF;obtain⟨x1,gx1,hF⟩:=bS hF;have w2:=s42 a0.Complex gx1;cases x1 with
 |true=>
  rw[if_pos rfl]at hF;by_cases c3:(a0.Levels.length:Int)=(a0.Complex.Dims.length:Int)
  ·rw[if_pos c3]at hF
   obtain⟨t16,gt16,hF⟩:=bS hF;rcases t16 with _|r21
   ·dsimp only at hF
    simp only[simprocAttr,R0,b41, *];refine W.mono (l41_1 a0 gt16 (ei _ (ai rfl ?_))) ?_
    ·simp only[simprocAttr,R0, *]
    rintro _ e _ ⟨rfl,k5,rfl,h_6⟩;obtain⟨y17,gy17,hF⟩:=bS hF;have w18:=e85 (g:=84) (fs:=[]) (cs:=[V.ptr 2 k5 0,V.iptr [V.int .i64 a0.Complex.Prime,V.isl (a0.Complex.Dims.map Enc.enc),V.isl (a0.Complex.Maps.map Enc.enc),V.isl (a0.Levels.map Enc.enc)]]) (S:=(fun(s:Bool) E=>∃G,E=(0,none)::(1,some [V.int .i64 a0.Complex.Prime,V.isl (a0.Complex.Dims.map Enc.enc),V.isl (a0.Complex.Maps.map Enc.enc)])::(k5,some [V.bool s])::G)) (f:=(fun n r p v s=> F84 n r p v s a0)) ⟨fun n r p v s s' hs E c hS=>(by obtain⟨G,rfl⟩:=hS; exact⟨_,_,q84 (0,none) (1,some [V.int .i64 a0.Complex.Prime,V.isl (a0.Complex.Dims.map Enc.enc),V.isl (a0.Complex.Maps.map Enc.enc)]) k5 _ _ n r p v s a0 hs,G,rfl⟩),fun s E x hS=>(by obtain⟨G,rfl⟩:=hS; exact⟨G++[x],rfl⟩)⟩ a0.Complex gy17 _ (k5+1) ⟨[],rfl⟩;obtain⟨⟨w18E,k20⟩,w18,G19,w18h⟩:=w18;dsimp only at w18h;subst w18h;cases hF;simp only[simprocAttr,R0,zj, *];exact qd (by simp only[simprocAttr,R0,qe,p41,Rs.ev,qa,zj, *])
   ·dsimp only at hF
    cases hF;simp only[simprocAttr,R0,b41, *];refine W.mono (l41_1 a0 gt16 (ei _ (ai rfl ?_))) ?_
    ·simp only[simprocAttr,R0, *]
    rintro _ e h ⟨rfl,hq⟩;simp only[simprocAttr,RR,RB];exact hq
  ·rw[if_neg c3]at hF
   cases hF;simp only[simprocAttr,R0,b41, *];exact qd (by simp only[simprocAttr,R0,qe,p41,Rs.ev,qa, *])
 |false=>
  rw[if_neg wC]at hF;cases hF;simp only[simprocAttr,R0,b41, *];exact qd (by simp only[simprocAttr,R0,qe,p41,Rs.ev,qa, *])
def F166(a0:qc)(a1:Int)(a2:Int)(a3:Int):Option Int:=
 (F41 a0).bind fun x1=>
 if x1=true then
  (F56 a1 0 8).bind fun x3=>
  if x3=true then
   (F86 a0.Complex).bind fun x5=>
   (F56 a2 0 x5).bind fun x7=>
   if x7=true then
    (F56 a3 0 5).bind fun x9=>
    if x9=true then
     some 0
    else
     some 2
   else
    some 2
  else
   some 2
 else
  some 1
theorem s166(a0:qc)(a1:Int)(a2:Int)(a3:Int){r:Int}(hF:F166 a0 a1 a2 a3=some r):ans A 166 [(eF a0),V.int .i64 a1,V.int .i64 a2,V.int .i64 a3]=some (Enc.enc r):=by
 refine qu (f:=p166) rfl rfl rfl fun e hl he=>?_;have h0_0:e.at 0=(eF a0):=he 0 _ rfl;have h1_0:e.at 1=V.int .i64 a1:=he 1 _ rfl;have h2_0:e.at 2=V.int .i64 a2:=he 2 _ rfl;have h3_0:e.at 3=V.int .i64 a3:=he 3 _ rfl;have hl_0:e.length=30:=hl;clear he hl;have h_0:=ai hl_0 (ai h0_0 (ai h1_0 (ai h2_0 h3_0)));show W A b166 e ⟨[],0⟩ _;unfold F166 at hF;obtain⟨x1,gx1,hF⟩:=bS hF;have w2:=s41 a0 gx1;cases x1 with
 |true=>
  rw[if_pos rfl]at hF;obtain⟨x3,gx3,hF⟩:=bS hF;have w4:=s56 a1 0 8 gx3;cases x3 with
  |true=>
   rw[if_pos rfl]at hF;obtain⟨x5,gx5,hF⟩:=bS hF;have w6:=s86 a0.Complex gx5;obtain⟨x7,gx7,hF⟩:=bS hF;have w8:=s56 a2 0 x5 gx7;cases x7 with
   |true=>
    rw[if_pos rfl]at hF;obtain⟨x9,gx9,hF⟩:=bS hF;have w10:=s56 a3 0 5 gx9;cases x9 with
    |true=>
     rw[if_pos rfl]at hF;cases hF;simp only[simprocAttr,R0,b166, *];exact qd (by simp only[simprocAttr,R0,qe,p166,Rs.ev,qa, *])
    |false=>
     rw[if_neg wC]at hF;cases hF;simp only[simprocAttr,R0,b166, *];exact qd (by simp only[simprocAttr,R0,qe,p166,Rs.ev,qa, *])
   |false=>
    rw[if_neg wC]at hF;cases hF;simp only[simprocAttr,R0,b166, *];exact qd (by simp only[simprocAttr,R0,qe,p166,Rs.ev,qa, *])
  |false=>
   rw[if_neg wC]at hF;cases hF;simp only[simprocAttr,R0,b166, *];exact qd (by simp only[simprocAttr,R0,qe,p166,Rs.ev,qa, *])
 |false=>
  rw[if_neg wC]at hF;cases hF;simp only[simprocAttr,R0,b166, *];exact qd (by simp only[simprocAttr,R0,qe,p166,Rs.ev,qa, *])
def F96(a0:List Int):Option (List Int):=app 8 [] a0
theorem t96(a0:List Int){r:List Int}(hF:F96 a0=some r):tans A 96 [1] [V.isl (a0.map Enc.enc)]=some (Enc.enc r):=clone_tans rfl hF
def F137(a0:List Int)(d0:Int):Option Bool:=
 (getI a0 d0).bind fun x1=>
 some (!(decide (x1=0)))
theorem s137(a0:List Int)(d0:Int){r:Bool}(hF:F137 a0 d0=some r):ans A 137 [V.isl (a0.map Enc.enc),V.iptr [V.int .i64 d0]]=some (Enc.enc r):=by
 refine qu (f:=p137) rfl rfl rfl fun e hl he=>?_;have h0_0:e.at 0=V.isl (a0.map Enc.enc):=he 0 _ rfl;have h1_0:e.at 1=V.iptr [V.int .i64 d0]:=he 1 _ rfl;have hl_0:e.length=9:=hl;clear he hl;show W A b137 e ⟨[],0⟩ _;unfold F137 at hF;obtain⟨x1,gx1,hF⟩:=bS hF;obtain⟨w2a,w2b⟩:=ql gx1;cases hF;simp only[simprocAttr,R0,b137, *];exact qd (by simp only[simprocAttr,R0,qe,p137,Rs.ev,qa, *])
end
end Rv
