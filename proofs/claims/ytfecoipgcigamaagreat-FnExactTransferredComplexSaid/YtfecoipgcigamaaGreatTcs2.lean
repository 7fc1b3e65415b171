/- What the abstract code answers: typed functions, part 3. -/
import Derived.Test.YtfecoipgcigamaaGreatTcs1
namespace Rv
set_option linter.unusedVariables false
set_option linter.unusedSimpArgs false
set_option maxRecDepth 100000
noncomputable section
def F285_1_B(a0:List Int)(v3_1:Int)(s:Unit):Option ((Unit)⊕((Unit)⊕Bool)):=
 (getI a0 v3_1).bind fun x4=>
if x4=0 then
 some (.inl ())
else
 some (.inr (.inr false))
def F285_1_D(a0:List Int)(v3_1:Int)(s:Unit):Option ((Unit)⊕Bool):=
 some (.inl ())
def F285(a0:List Int):Option Bool:=
 (forR 0 (a0.length:Int) (F285_1_B a0) (F285_1_D a0) ()).bind fun t7=> match t7 with
  | .inl _=>
   some true
  | .inr r8=> some r8
def I285_1(a0:List Int)(v3_1:Int)(s:Unit)(e:Env)(h:Heap):Prop:=
 ∃k2:Nat,h=⟨[],k2⟩∧e.length=15∧e.at 0=V.isl (a0.map Enc.enc)∧e.at 3=V.int .i64 v3_1
def P285_1(a0:List Int)(t:(Unit)⊕Bool)(x:Ex)(e:Env)(h:Heap):Prop:=
 match t with
 | .inl _=> x= .normal∧∃k2:Nat,h=⟨[],k2⟩∧e.length=15
 | .inr r=> x= .ret∧Fin p285 (Enc.enc r) .ret e h
theorem l285_1(a0:List Int){lo:Int}{s:Unit}{t:(Unit)⊕Bool}(hF:forR lo (a0.length:Int) (F285_1_B a0) (F285_1_D a0) s=some t){e:Env}{h:Heap}(hI:I285_1 a0 lo s e h):W A c285_1 e h (P285_1 a0 t):=by
 show W A (.block 0 (.loop false b285_1)) e h _;rw[W_block];refine W_forR hF 0 (by obtain⟨_,rfl,_⟩:=hI; rfl) (I285_1 a0) hI ?_ ?_
 ·rintro v3_1 _ e h ⟨k2,rfl,h_1⟩ hlt hw o ho
  unfold F285_1_B at ho;obtain⟨x4,gx4,ho⟩:=bS ho;obtain⟨w5a,w5b⟩:=getI_w gx4;by_cases c6:x4=0
  ·rw[if_pos c6]at ho
   cases ho;simp only[simprocAttr,R0,b285_1,h_1,eq_true hlt,hw,w5a,w5b,eq_true c6];refine And.intro rfl (Exists.intro _ (And.intro rfl ?_));simp only[simprocAttr,R0,h_1,eq_true hlt,hw,w5a,w5b,eq_true c6]
  ·rw[if_neg c6]at ho
   cases ho;simp only[simprocAttr,R0,b285_1,h_1,eq_true hlt,hw,w5a,w5b,eq_false c6];intro ht; subst ht;simp only[simprocAttr,RR,RB];exact And.intro rfl (fin_ret (by simp only[simprocAttr,R0,fn_out,p285,Rs.ev,take_len_self,h_1,eq_true hlt,hw,w5a,w5b,eq_false c6]))
 ·rintro v3_1 _ e h ⟨k2,rfl,h_1⟩ hge t1 ho
  unfold F285_1_D at ho;cases ho;simp only[simprocAttr,R0,b285_1,h_1,eq_false hge];intro ht; subst ht;refine And.intro rfl (Exists.intro _ (And.intro rfl ?_));simp only[simprocAttr,R0,h_1,eq_false hge]
theorem s285(a0:List Int){r:Bool}(hF:F285 a0=some r):ans A 285 [V.isl (a0.map Enc.enc)]=some (Enc.enc r):=by
 refine ans_of (f:=p285) rfl rfl rfl fun e hl he=>?_;have h0_0:e.at 0=V.isl (a0.map Enc.enc):=he 0 _ rfl;have hl_0:e.length=15:=hl;clear he hl;have h_0:=And.intro hl_0 h0_0;show W A b285 e ⟨[],0⟩ _;unfold F285 at hF;obtain⟨t7,gt7,hF⟩:=bS hF;rcases t7 with _|r8
 ·dsimp only at hF
  simp only[simprocAttr,R0,b285,h_0];refine W.mono (l285_1 a0 gt7 (Exists.intro _ (And.intro rfl ?_))) ?_
  ·simp only[simprocAttr,R0,h_0]
  rintro _ e _ ⟨rfl,k2,rfl,hl_3⟩;cases hF;simp only[simprocAttr,R0,hl_3];exact fin_ret (by simp only[simprocAttr,R0,fn_out,p285,Rs.ev,take_len_self,hl_3])
 ·dsimp only at hF
  cases hF;simp only[simprocAttr,R0,b285,h_0];refine W.mono (l285_1 a0 gt7 (Exists.intro _ (And.intro rfl ?_))) ?_
  ·simp only[simprocAttr,R0,h_0]
  rintro _ e h ⟨rfl,hq⟩;simp only[simprocAttr,RR,RB];exact hq
def F287_1_B(a0:List Int)(a1:List Int)(v5_1:Int)(s:Unit):Option ((Unit)⊕((Unit)⊕Bool)):=
 (getI a0 v5_1).bind fun x5=>
(getI a1 v5_1).bind fun x7=>
if x5=x7 then
 some (.inl ())
else
 some (.inr (.inr false))
def F287_1_D(a0:List Int)(a1:List Int)(v5_1:Int)(s:Unit):Option ((Unit)⊕Bool):=
 some (.inl ())
def F287(a0:List Int)(a1:List Int):Option Bool:=
 if(a0.length:Int)=(a1.length:Int)then
  (forR 0 (a0.length:Int) (F287_1_B a0 a1) (F287_1_D a0 a1) ()).bind fun t10=> match t10 with
   | .inl _=>
    some true
   | .inr r11=> some r11
 else
  some false
def I287_1(a0:List Int)(a1:List Int)(v5_1:Int)(s:Unit)(e:Env)(h:Heap):Prop:=
 ∃k3:Nat,h=⟨[],k3⟩∧e.length=26∧e.at 0=V.isl (a0.map Enc.enc)∧e.at 1=V.isl (a1.map Enc.enc)∧e.at 5=V.int .i64 v5_1
def P287_1(a0:List Int)(a1:List Int)(t:(Unit)⊕Bool)(x:Ex)(e:Env)(h:Heap):Prop:=
 match t with
 | .inl _=> x= .normal∧∃k3:Nat,h=⟨[],k3⟩∧e.length=26
 | .inr r=> x= .ret∧Fin p287 (Enc.enc r) .ret e h
theorem l287_1(a0:List Int)(a1:List Int){lo:Int}{s:Unit}{t:(Unit)⊕Bool}(hF:forR lo (a0.length:Int) (F287_1_B a0 a1) (F287_1_D a0 a1) s=some t){e:Env}{h:Heap}(hI:I287_1 a0 a1 lo s e h):W A c287_1 e h (P287_1 a0 a1 t):=by
 show W A (.block 0 (.loop false b287_1)) e h _;rw[W_block];refine W_forR hF 0 (by obtain⟨_,rfl,_⟩:=hI; rfl) (I287_1 a0 a1) hI ?_ ?_
 ·rintro v5_1 _ e h ⟨k3,rfl,h_2⟩ hlt hw o ho
  unfold F287_1_B at ho;obtain⟨x5,gx5,ho⟩:=bS ho;obtain⟨w6a,w6b⟩:=getI_w gx5;obtain⟨x7,gx7,ho⟩:=bS ho;obtain⟨w8a,w8b⟩:=getI_w gx7;by_cases c9:x5=x7
  ·rw[if_pos c9]at ho
   cases ho;simp only[simprocAttr,R0,b287_1,h_2,eq_true hlt,hw,w6a,w6b,w8a,w8b,eq_true c9];refine And.intro rfl (Exists.intro _ (And.intro rfl ?_));simp only[simprocAttr,R0,h_2,eq_true hlt,hw,w6a,w6b,w8a,w8b,eq_true c9]
  ·rw[if_neg c9]at ho
   cases ho;simp only[simprocAttr,R0,b287_1,h_2,eq_true hlt,hw,w6a,w6b,w8a,w8b,eq_false c9];intro ht; subst ht;simp only[simprocAttr,RR,RB];exact And.intro rfl (fin_ret (by simp only[simprocAttr,R0,fn_out,p287,Rs.ev,take_len_self,h_2,eq_true hlt,hw,w6a,w6b,w8a,w8b,eq_false c9]))
 ·rintro v5_1 _ e h ⟨k3,rfl,h_2⟩ hge t1 ho
  unfold F287_1_D at ho;cases ho;simp only[simprocAttr,R0,b287_1,h_2,eq_false hge];intro ht; subst ht;refine And.intro rfl (Exists.intro _ (And.intro rfl ?_));simp only[simprocAttr,R0,h_2,eq_false hge]
theorem s287(a0:List Int)(a1:List Int){r:Bool}(hF:F287 a0 a1=some r):ans A 287 [V.isl (a0.map Enc.enc),V.isl (a1.map Enc.enc)]=some (Enc.enc r):=by
 refine ans_of (f:=p287) rfl rfl rfl fun e hl he=>?_;have h0_0:e.at 0=V.isl (a0.map Enc.enc):=he 0 _ rfl;have h1_0:e.at 1=V.isl (a1.map Enc.enc):=he 1 _ rfl;have hl_0:e.length=26:=hl;clear he hl;have h_0:=And.intro hl_0 (And.intro h0_0 h1_0);show W A b287 e ⟨[],0⟩ _;unfold F287 at hF;by_cases c1:(a0.length:Int)=(a1.length:Int)
 ·rw[if_pos c1]at hF
  obtain⟨t10,gt10,hF⟩:=bS hF;rcases t10 with _|r11
  ·dsimp only at hF
   simp only[simprocAttr,R0,b287,h_0,eq_true c1];refine W.mono (l287_1 a0 a1 gt10 (Exists.intro _ (And.intro rfl ?_))) ?_
   ·simp only[simprocAttr,R0,h_0,eq_true c1]
   rintro _ e _ ⟨rfl,k3,rfl,hl_4⟩;cases hF;simp only[simprocAttr,R0,hl_4,eq_true c1];exact fin_ret (by simp only[simprocAttr,R0,fn_out,p287,Rs.ev,take_len_self,hl_4,eq_true c1])
  ·dsimp only at hF
   cases hF;simp only[simprocAttr,R0,b287,h_0,eq_true c1];refine W.mono (l287_1 a0 a1 gt10 (Exists.intro _ (And.intro rfl ?_))) ?_
   ·simp only[simprocAttr,R0,h_0,eq_true c1]
   rintro _ e h ⟨rfl,hq⟩;simp only[simprocAttr,RR,RB];exact hq
 ·rw[if_neg c1]at hF
  cases hF;simp only[simprocAttr,R0,b287,h_0,eq_false c1];exact fin_ret (by simp only[simprocAttr,R0,fn_out,p287,Rs.ev,take_len_self,h_0,eq_false c1])
def F288(a0:GComplex)(a1:GContraction)(a2:Int)(a3:List Int):Option (List Int):=
 (getI a1.Back a2).bind fun x1=>
 (chk (a2+1)).bind fun x3=>
 (F99 a0 x3).bind fun x4=>
 (F80 a0.Prime x1 a3 x4).bind fun x6=>
 some x6
theorem s288(a0:GComplex)(a1:GContraction)(a2:Int)(a3:List Int){r:List Int}(hF:F288 a0 a1 a2 a3=some r):ans A 288 [(eC a0),(eK a1),V.int .i64 a2,V.isl (a3.map Enc.enc)]=some (Enc.enc r):=by
 refine ans_of (f:=p288) rfl rfl rfl fun e hl he=>?_;have h0_0:e.at 0=(eC a0):=he 0 _ rfl;have h1_0:e.at 1=(eK a1):=he 1 _ rfl;have h2_0:e.at 2=V.int .i64 a2:=he 2 _ rfl;have h3_0:e.at 3=V.isl (a3.map Enc.enc):=he 3 _ rfl;have hl_0:e.length=22:=hl;clear he hl;show W A b288 e ⟨[],0⟩ _;unfold F288 at hF;obtain⟨x1,gx1,hF⟩:=bS hF;obtain⟨w2a,w2b⟩:=getI_w gx1;obtain⟨x3,gx3,hF⟩:=bS hF;have wx3:=chk_w gx3;obtain⟨x4,gx4,hF⟩:=bS hF;have w5:ans A 99 [(eC a0),V.int .i64 x3]=some (V.int .i64 x4):=s99 a0 x3 gx4;obtain⟨x6,gx6,hF⟩:=bS hF;have w7:ans A 80 [V.int .i64 a0.Prime,V.isl (x1.map Enc.enc),V.isl (a3.map Enc.enc),V.int .i64 x4]=some (V.isl (x6.map Enc.enc)):=s80 a0.Prime x1 a3 x4 gx6;cases hF;simp only[simprocAttr,R0,b288,hl_0,h0_0,h1_0,h2_0,h3_0,w2a,w2b,wx3,w5,w7];exact fin_ret (by simp only[simprocAttr,R0,fn_out,p288,Rs.ev,take_len_self,hl_0,h0_0,h1_0,h2_0,h3_0,w2a,w2b,wx3,w5,w7])
def F312_1_B(a0:Int)(a1:List Int)(a2:List Int)(a3:List Int)(a4:List Int)(v11_1:Int)(s:Unit):Option ((Unit)⊕((Unit)⊕Bool)):=
 (getI a1 v11_1).bind fun x4=>
(getI a2 v11_1).bind fun x6=>
(chk (x4 - x6)).bind fun x8=>
(getI a3 v11_1).bind fun x9=>
(chk (x8 - x9)).bind fun x11=>
(getI a4 v11_1).bind fun x12=>
(chk (x11 - x12)).bind fun x14=>
(F127 a0 x14).bind fun x15=>
if x15=0 then
 some (.inl ())
else
 some (.inr (.inr false))
def F312_1_D(a0:Int)(a1:List Int)(a2:List Int)(a3:List Int)(a4:List Int)(v11_1:Int)(s:Unit):Option ((Unit)⊕Bool):=
 some (.inl ())
def F312(a0:Int)(a1:List Int)(a2:List Int)(a3:List Int)(a4:List Int):Option Bool:=
 (forR 0 (a1.length:Int) (F312_1_B a0 a1 a2 a3 a4) (F312_1_D a0 a1 a2 a3 a4) ()).bind fun t18=> match t18 with
  | .inl _=>
   some true
  | .inr r19=> some r19
def I312_1(a0:Int)(a1:List Int)(a2:List Int)(a3:List Int)(a4:List Int)(v11_1:Int)(s:Unit)(e:Env)(h:Heap):Prop:=
 ∃k2:Nat,h=⟨[],k2⟩∧e.length=40∧e.at 0=V.int .i64 a0∧e.at 1=V.isl (a1.map Enc.enc)∧e.at 2=V.isl (a2.map Enc.enc)∧e.at 3=V.isl (a3.map Enc.enc)∧e.at 4=V.isl (a4.map Enc.enc)∧e.at 11=V.int .i64 v11_1
def P312_1(a0:Int)(a1:List Int)(a2:List Int)(a3:List Int)(a4:List Int)(t:(Unit)⊕Bool)(x:Ex)(e:Env)(h:Heap):Prop:=
 match t with
 | .inl _=> x= .normal∧∃k2:Nat,h=⟨[],k2⟩∧e.length=40
 | .inr r=> x= .ret∧Fin p312 (Enc.enc r) .ret e h
theorem l312_1(a0:Int)(a1:List Int)(a2:List Int)(a3:List Int)(a4:List Int){lo:Int}{s:Unit}{t:(Unit)⊕Bool}(hF:forR lo (a1.length:Int) (F312_1_B a0 a1 a2 a3 a4) (F312_1_D a0 a1 a2 a3 a4) s=some t){e:Env}{h:Heap}(hI:I312_1 a0 a1 a2 a3 a4 lo s e h):W A c312_1 e h (P312_1 a0 a1 a2 a3 a4 t):=by
 show W A (.block 0 (.loop false b312_1)) e h _;rw[W_block];refine W_forR hF 0 (by obtain⟨_,rfl,_⟩:=hI; rfl) (I312_1 a0 a1 a2 a3 a4) hI ?_ ?_
 ·rintro v11_1 _ e h ⟨k2,rfl,h_1⟩ hlt hw o ho
  unfold F312_1_B at ho;obtain⟨x4,gx4,ho⟩:=bS ho;obtain⟨w5a,w5b⟩:=getI_w gx4;obtain⟨x6,gx6,ho⟩:=bS ho;obtain⟨w7a,w7b⟩:=getI_w gx6;obtain⟨x8,gx8,ho⟩:=bS ho;have wx8:=chk_w gx8;obtain⟨x9,gx9,ho⟩:=bS ho;obtain⟨w10a,w10b⟩:=getI_w gx9;obtain⟨x11,gx11,ho⟩:=bS ho;have wx11:=chk_w gx11;obtain⟨x12,gx12,ho⟩:=bS ho;obtain⟨w13a,w13b⟩:=getI_w gx12;obtain⟨x14,gx14,ho⟩:=bS ho;have wx14:=chk_w gx14;obtain⟨x15,gx15,ho⟩:=bS ho;have w16:ans A 127 [V.int .i64 a0,V.int .i64 x14]=some (V.int .i64 x15):=s127 a0 x14 gx15;by_cases c17:x15=0
  ·rw[if_pos c17]at ho
   cases ho;simp only[simprocAttr,R0,b312_1,h_1,eq_true hlt,hw,w5a,w5b,w7a,w7b,wx8,w10a,w10b,wx11,w13a,w13b,wx14,w16,eq_true c17];refine And.intro rfl (Exists.intro _ (And.intro rfl ?_));simp only[simprocAttr,R0,h_1,eq_true hlt,hw,w5a,w5b,w7a,w7b,wx8,w10a,w10b,wx11,w13a,w13b,wx14,w16,eq_true c17]
  ·rw[if_neg c17]at ho
   cases ho;simp only[simprocAttr,R0,b312_1,h_1,eq_true hlt,hw,w5a,w5b,w7a,w7b,wx8,w10a,w10b,wx11,w13a,w13b,wx14,w16,eq_false c17];intro ht; subst ht;simp only[simprocAttr,RR,RB];exact And.intro rfl (fin_ret (by simp only[simprocAttr,R0,fn_out,p312,Rs.ev,take_len_self,h_1,eq_true hlt,hw,w5a,w5b,w7a,w7b,wx8,w10a,w10b,wx11,w13a,w13b,wx14,w16,eq_false c17]))
 ·rintro v11_1 _ e h ⟨k2,rfl,h_1⟩ hge t1 ho
  unfold F312_1_D at ho;cases ho;simp only[simprocAttr,R0,b312_1,h_1,eq_false hge];intro ht; subst ht;refine And.intro rfl (Exists.intro _ (And.intro rfl ?_));simp only[simprocAttr,R0,h_1,eq_false hge]
theorem s312(a0:Int)(a1:List Int)(a2:List Int)(a3:List Int)(a4:List Int){r:Bool}(hF:F312 a0 a1 a2 a3 a4=some r):ans A 312 [V.int .i64 a0,V.isl (a1.map Enc.enc),V.isl (a2.map Enc.enc),V.isl (a3.map Enc.enc),V.isl (a4.map Enc.enc)]=some (Enc.enc r):=by
 refine ans_of (f:=p312) rfl rfl rfl fun e hl he=>?_;have h0_0:e.at 0=V.int .i64 a0:=he 0 _ rfl;have h1_0:e.at 1=V.isl (a1.map Enc.enc):=he 1 _ rfl;have h2_0:e.at 2=V.isl (a2.map Enc.enc):=he 2 _ rfl;have h3_0:e.at 3=V.isl (a3.map Enc.enc):=he 3 _ rfl;have h4_0:e.at 4=V.isl (a4.map Enc.enc):=he 4 _ rfl;have hl_0:e.length=40:=hl;clear he hl;have h_0:=And.intro hl_0 (And.intro h0_0 (And.intro h1_0 (And.intro h2_0 (And.intro h3_0 h4_0))));show W A b312 e ⟨[],0⟩ _;unfold F312 at hF;obtain⟨t18,gt18,hF⟩:=bS hF;rcases t18 with _|r19
 ·dsimp only at hF
  simp only[simprocAttr,R0,b312,h_0];refine W.mono (l312_1 a0 a1 a2 a3 a4 gt18 (Exists.intro _ (And.intro rfl ?_))) ?_
  ·simp only[simprocAttr,R0,h_0]
  rintro _ e _ ⟨rfl,k2,rfl,hl_3⟩;cases hF;simp only[simprocAttr,R0,hl_3];exact fin_ret (by simp only[simprocAttr,R0,fn_out,p312,Rs.ev,take_len_self,hl_3])
 ·dsimp only at hF
  cases hF;simp only[simprocAttr,R0,b312,h_0];refine W.mono (l312_1 a0 a1 a2 a3 a4 gt18 (Exists.intro _ (And.intro rfl ?_))) ?_
  ·simp only[simprocAttr,R0,h_0]
  rintro _ e h ⟨rfl,hq⟩;simp only[simprocAttr,RR,RB];exact hq
def F289(a0:GComplex)(a1:GContraction)(a2:Int)(a3:List Int):Option Bool:=
 (F286 a0 a1 a2 a3).bind fun x1=>
 (F288 a0 a1 a2 a3).bind fun x3=>
 (F273 a0 a2 a3).bind fun x5=>
 (mkL 8 (a3.length:Int) 0).bind fun l7=>
 (mkL 8 (a3.length:Int) 0).bind fun l9=>
 (chk (a2+1)).bind fun x11=>
 if x11 < (a0.Dims.length:Int)then
  (F273 a0 x11 x3).bind fun x13=>
  (F286 a0 a1 x11 x3).bind fun x15=>
  (F285 x15).bind fun x17=>
  if x17=true then
   (F288 a0 a1 x11 x3).bind fun x19=>
   (F285 x19).bind fun x21=>
   if x21=true then
    if 0 < a2 then
     (chk (a2 - 1)).bind fun x24=>
     (F288 a0 a1 x24 x5).bind fun x25=>
     (F286 a0 a1 x24 x5).bind fun x27=>
     (F285 x27).bind fun x29=>
     if x29=true then
      (F284 a0 a1 a2 x1).bind fun x31=>
      (F312 a0.Prime a3 x31 x13 x25).bind fun x33=>
      some x33
     else
      some false
    else
     (F284 a0 a1 a2 x1).bind fun x35=>
     (F312 a0.Prime a3 x35 x13 l9).bind fun x37=>
     some x37
   else
    some false
  else
   some false
 else
  if 0 < a2 then
   (chk (a2 - 1)).bind fun x40=>
   (F288 a0 a1 x40 x5).bind fun x41=>
   (F286 a0 a1 x40 x5).bind fun x43=>
   (F285 x43).bind fun x45=>
   if x45=true then
    (F284 a0 a1 a2 x1).bind fun x47=>
    (F312 a0.Prime a3 x47 l7 x41).bind fun x49=>
    some x49
   else
    some false
  else
   (F284 a0 a1 a2 x1).bind fun x51=>
   (F312 a0.Prime a3 x51 l7 l9).bind fun x53=>
   some x53
set_option maxHeartbeats 8000000 in
theorem s289(a0:GComplex)(a1:GContraction)(a2:Int)(a3:List Int){r:Bool}(hF:F289 a0 a1 a2 a3=some r):ans A 289 [(eC a0),(eK a1),V.int .i64 a2,V.isl (a3.map Enc.enc)]=some (Enc.enc r):=by
 refine ans_of (f:=p289) rfl rfl rfl fun e hl he=>?_;have h0_0:e.at 0=(eC a0):=he 0 _ rfl;have h1_0:e.at 1=(eK a1):=he 1 _ rfl;have h2_0:e.at 2=V.int .i64 a2:=he 2 _ rfl;have h3_0:e.at 3=V.isl (a3.map Enc.enc):=he 3 _ rfl;have hl_0:e.length=90:=hl;clear he hl;have h_0:=And.intro hl_0 (And.intro h0_0 (And.intro h1_0 (And.intro h2_0 h3_0)));show W A b289 e ⟨[],0⟩ _;unfold F289 at hF;obtain⟨x1,gx1,hF⟩:=bS hF;have w2:ans A 286 [(eC a0),(eK a1),V.int .i64 a2,V.isl (a3.map Enc.enc)]=some (V.isl (x1.map Enc.enc)):=s286 a0 a1 a2 a3 gx1;obtain⟨x3,gx3,hF⟩:=bS hF;have w4:ans A 288 [(eC a0),(eK a1),V.int .i64 a2,V.isl (a3.map Enc.enc)]=some (V.isl (x3.map Enc.enc)):=s288 a0 a1 a2 a3 gx3;obtain⟨x5,gx5,hF⟩:=bS hF;have w6:ans A 273 [(eC a0),V.int .i64 a2,V.isl (a3.map Enc.enc)]=some (V.isl (x5.map Enc.enc)):=s273 a0 a2 a3 gx5;obtain⟨l7,gl7,hF⟩:=bS hF;obtain⟨w8a,w8b,w8c,w8d,w8e⟩:=mkL_w gl7;replace w8e:(List.replicate (Int.toNat (a3.length:Int)) [V.int .i64 0]).flatten=List.map Enc.enc l7:=w8e;obtain⟨l9,gl9,hF⟩:=bS hF;obtain⟨w10a,w10b,w10c,w10d,w10e⟩:=mkL_w gl9;replace w10e:(List.replicate (Int.toNat (a3.length:Int)) [V.int .i64 0]).flatten=List.map Enc.enc l9:=w10e;have hq:l7=l9:=Option.some.inj (gl7.symm.trans gl9);subst hq;have w8f:((a3.length:Int).toNat≤l7.length)=True:=eq_true (by omega);have w8g:List.take (a3.length:Int).toNat (l7.map Enc.enc)=List.map Enc.enc l7:=List.take_of_length_le (by rw[List.length_map]; omega);obtain⟨x11,gx11,hF⟩:=bS hF;have wx11:=chk_w gx11;by_cases c12:x11 < (a0.Dims.length:Int)
 ·rw[if_pos c12]at hF
  obtain⟨x13,gx13,hF⟩:=bS hF;have w14:ans A 273 [(eC a0),V.int .i64 x11,V.isl (x3.map Enc.enc)]=some (V.isl (x13.map Enc.enc)):=s273 a0 x11 x3 gx13;obtain⟨x15,gx15,hF⟩:=bS hF;have w16:ans A 286 [(eC a0),(eK a1),V.int .i64 x11,V.isl (x3.map Enc.enc)]=some (V.isl (x15.map Enc.enc)):=s286 a0 a1 x11 x3 gx15;obtain⟨x17,gx17,hF⟩:=bS hF;have w18:ans A 285 [V.isl (x15.map Enc.enc)]=some (V.bool x17):=s285 x15 gx17;cases x17 with
  |true=>
   rw[if_pos rfl]at hF;obtain⟨x19,gx19,hF⟩:=bS hF;have w20:ans A 288 [(eC a0),(eK a1),V.int .i64 x11,V.isl (x3.map Enc.enc)]=some (V.isl (x19.map Enc.enc)):=s288 a0 a1 x11 x3 gx19;obtain⟨x21,gx21,hF⟩:=bS hF;have w22:ans A 285 [V.isl (x19.map Enc.enc)]=some (V.bool x21):=s285 x19 gx21;cases x21 with
   |true=>
    rw[if_pos rfl]at hF;by_cases c23:0 < a2
    ·rw[if_pos c23]at hF
     obtain⟨x24,gx24,hF⟩:=bS hF;have wx24:=chk_w gx24;obtain⟨x25,gx25,hF⟩:=bS hF;have w26:ans A 288 [(eC a0),(eK a1),V.int .i64 x24,V.isl (x5.map Enc.enc)]=some (V.isl (x25.map Enc.enc)):=s288 a0 a1 x24 x5 gx25;obtain⟨x27,gx27,hF⟩:=bS hF;have w28:ans A 286 [(eC a0),(eK a1),V.int .i64 x24,V.isl (x5.map Enc.enc)]=some (V.isl (x27.map Enc.enc)):=s286 a0 a1 x24 x5 gx27;obtain⟨x29,gx29,hF⟩:=bS hF;have w30:ans A 285 [V.isl (x27.map Enc.enc)]=some (V.bool x29):=s285 x27 gx29;cases x29 with
     |true=>
      rw[if_pos rfl]at hF;obtain⟨x31,gx31,hF⟩:=bS hF;have w32:ans A 284 [(eC a0),(eK a1),V.int .i64 a2,V.isl (x1.map Enc.enc)]=some (V.isl (x31.map Enc.enc)):=s284 a0 a1 a2 x1 gx31;obtain⟨x33,gx33,hF⟩:=bS hF;have w34:ans A 312 [V.int .i64 a0.Prime,V.isl (a3.map Enc.enc),V.isl (x31.map Enc.enc),V.isl (x13.map Enc.enc),V.isl (x25.map Enc.enc)]=some (V.bool x33):=s312 a0.Prime a3 x31 x13 x25 gx33;cases hF;simp only[simprocAttr, -Int.reduceNatCast',R0,b289,h_0,w2,w4,w6,w8f,w8g,w8a,w8b,w8c,w8e,wx11,eq_true c12,w14,w16,w18,w20,w22,eq_true c23,wx24,w26,w28,w30,w32,w34];exact fin_ret (by simp only[simprocAttr, -Int.reduceNatCast',R0,fn_out,p289,Rs.ev,take_len_self,h_0,w2,w4,w6,w8f,w8g,w8a,w8b,w8c,w8e,wx11,eq_true c12,w14,w16,w18,w20,w22,eq_true c23,wx24,w26,w28,w30,w32,w34,w8d,w10d])
     |false=>
      rw[if_neg Bool.false_ne_true]at hF;cases hF;simp only[simprocAttr, -Int.reduceNatCast',R0,b289,h_0,w2,w4,w6,w8f,w8g,w8a,w8b,w8c,w8e,wx11,eq_true c12,w14,w16,w18,w20,w22,eq_true c23,wx24,w26,w28,w30];exact fin_ret (by simp only[simprocAttr, -Int.reduceNatCast',R0,fn_out,p289,Rs.ev,take_len_self,h_0,w2,w4,w6,w8f,w8g,w8a,w8b,w8c,w8e,wx11,eq_true c12,w14,w16,w18,w20,w22,eq_true c23,wx24,w26,w28,w30,w8d,w10d])
    ·rw[if_neg c23]at hF
     obtain⟨x35,gx35,hF⟩:=bS hF;have w36:ans A 284 [(eC a0),(eK a1),V.int .i64 a2,V.isl (x1.map Enc.enc)]=some (V.isl (x35.map Enc.enc)):=s284 a0 a1 a2 x1 gx35;obtain⟨x37,gx37,hF⟩:=bS hF;have w38:ans A 312 [V.int .i64 a0.Prime,V.isl (a3.map Enc.enc),V.isl (x35.map Enc.enc),V.isl (x13.map Enc.enc),V.isl (l7.map Enc.enc)]=some (V.bool x37):=s312 a0.Prime a3 x35 x13 l7 gx37;cases hF;simp only[simprocAttr, -Int.reduceNatCast',R0,b289,h_0,w2,w4,w6,w8f,w8g,w8a,w8b,w8c,w8e,wx11,eq_true c12,w14,w16,w18,w20,w22,eq_false c23,w36,frzs (α:=Int) l7,take_len (α:=Int) (l:=l7) (n:=(Int.toNat (a3.length:Int))) (by first|rfl|simp only[w8d,w10d]),le_of_len (α:=Int) (l:=l7) (n:=(Int.toNat (a3.length:Int))) (by first|rfl|simp only[w8d,w10d]),w38];exact fin_ret (by simp only[simprocAttr, -Int.reduceNatCast',R0,fn_out,p289,Rs.ev,take_len_self,h_0,w2,w4,w6,w8f,w8g,w8a,w8b,w8c,w8e,wx11,eq_true c12,w14,w16,w18,w20,w22,eq_false c23,w36,frzs (α:=Int) l7,take_len (α:=Int) (l:=l7) (n:=(Int.toNat (a3.length:Int))) (by first|rfl|simp only[w8d,w10d]),le_of_len (α:=Int) (l:=l7) (n:=(Int.toNat (a3.length:Int))) (by first|rfl|simp only[w8d,w10d]),w38,w8d,w10d])
   |false=>
    rw[if_neg Bool.false_ne_true]at hF;cases hF;simp only[simprocAttr, -Int.reduceNatCast',R0,b289,h_0,w2,w4,w6,w8f,w8g,w8a,w8b,w8c,w8e,wx11,eq_true c12,w14,w16,w18,w20,w22];exact fin_ret (by simp only[simprocAttr, -Int.reduceNatCast',R0,fn_out,p289,Rs.ev,take_len_self,h_0,w2,w4,w6,w8f,w8g,w8a,w8b,w8c,w8e,wx11,eq_true c12,w14,w16,w18,w20,w22,w8d,w10d])
  |false=>
   rw[if_neg Bool.false_ne_true]at hF;cases hF;simp only[simprocAttr, -Int.reduceNatCast',R0,b289,h_0,w2,w4,w6,w8f,w8g,w8a,w8b,w8c,w8e,wx11,eq_true c12,w14,w16,w18];exact fin_ret (by simp only[simprocAttr, -Int.reduceNatCast',R0,fn_out,p289,Rs.ev,take_len_self,h_0,w2,w4,w6,w8f,w8g,w8a,w8b,w8c,w8e,wx11,eq_true c12,w14,w16,w18,w8d,w10d])
 ·rw[if_neg c12]at hF
  by_cases c39:0 < a2
  ·rw[if_pos c39]at hF
   obtain⟨x40,gx40,hF⟩:=bS hF;have wx40:=chk_w gx40;obtain⟨x41,gx41,hF⟩:=bS hF;have w42:ans A 288 [(eC a0),(eK a1),V.int .i64 x40,V.isl (x5.map Enc.enc)]=some (V.isl (x41.map Enc.enc)):=s288 a0 a1 x40 x5 gx41;obtain⟨x43,gx43,hF⟩:=bS hF;have w44:ans A 286 [(eC a0),(eK a1),V.int .i64 x40,V.isl (x5.map Enc.enc)]=some (V.isl (x43.map Enc.enc)):=s286 a0 a1 x40 x5 gx43;obtain⟨x45,gx45,hF⟩:=bS hF;have w46:ans A 285 [V.isl (x43.map Enc.enc)]=some (V.bool x45):=s285 x43 gx45;cases x45 with
   |true=>
    rw[if_pos rfl]at hF;obtain⟨x47,gx47,hF⟩:=bS hF;have w48:ans A 284 [(eC a0),(eK a1),V.int .i64 a2,V.isl (x1.map Enc.enc)]=some (V.isl (x47.map Enc.enc)):=s284 a0 a1 a2 x1 gx47;obtain⟨x49,gx49,hF⟩:=bS hF;have w50:ans A 312 [V.int .i64 a0.Prime,V.isl (a3.map Enc.enc),V.isl (x47.map Enc.enc),V.isl (l7.map Enc.enc),V.isl (x41.map Enc.enc)]=some (V.bool x49):=s312 a0.Prime a3 x47 l7 x41 gx49;cases hF;simp only[simprocAttr, -Int.reduceNatCast',R0,b289,h_0,w2,w4,w6,w8f,w8g,w8a,w8b,w8c,w8e,wx11,eq_false c12,eq_true c39,wx40,w42,w44,w46,w48,frzs (α:=Int) l7,take_len (α:=Int) (l:=l7) (n:=(Int.toNat (a3.length:Int))) (by first|rfl|simp only[w8d,w10d]),le_of_len (α:=Int) (l:=l7) (n:=(Int.toNat (a3.length:Int))) (by first|rfl|simp only[w8d,w10d]),w50];exact fin_ret (by simp only[simprocAttr, -Int.reduceNatCast',R0,fn_out,p289,Rs.ev,take_len_self,h_0,w2,w4,w6,w8f,w8g,w8a,w8b,w8c,w8e,wx11,eq_false c12,eq_true c39,wx40,w42,w44,w46,w48,frzs (α:=Int) l7,take_len (α:=Int) (l:=l7) (n:=(Int.toNat (a3.length:Int))) (by first|rfl|simp only[w8d,w10d]),le_of_len (α:=Int) (l:=l7) (n:=(Int.toNat (a3.length:Int))) (by first|rfl|simp only[w8d,w10d]),w50,w8d,w10d])
   |false=>
    rw[if_neg Bool.false_ne_true]at hF;cases hF;simp only[simprocAttr, -Int.reduceNatCast',R0,b289,h_0,w2,w4,w6,w8f,w8g,w8a,w8b,w8c,w8e,wx11,eq_false c12,eq_true c39,wx40,w42,w44,w46];exact fin_ret (by simp only[simprocAttr, -Int.reduceNatCast',R0,fn_out,p289,Rs.ev,take_len_self,h_0,w2,w4,w6,w8f,w8g,w8a,w8b,w8c,w8e,wx11,eq_false c12,eq_true c39,wx40,w42,w44,w46,w8d,w10d])
  ·rw[if_neg c39]at hF
   obtain⟨x51,gx51,hF⟩:=bS hF;have w52:ans A 284 [(eC a0),(eK a1),V.int .i64 a2,V.isl (x1.map Enc.enc)]=some (V.isl (x51.map Enc.enc)):=s284 a0 a1 a2 x1 gx51;obtain⟨x53,gx53,hF⟩:=bS hF;have w54:ans A 312 [V.int .i64 a0.Prime,V.isl (a3.map Enc.enc),V.isl (x51.map Enc.enc),V.isl (l7.map Enc.enc),V.isl (l7.map Enc.enc)]=some (V.bool x53):=s312 a0.Prime a3 x51 l7 l7 gx53;cases hF;simp only[simprocAttr, -Int.reduceNatCast',R0,b289,h_0,w2,w4,w6,w8f,w8g,w8a,w8b,w8c,w8e,wx11,eq_false c12,eq_false c39,w52,frzs (α:=Int) l7,take_len (α:=Int) (l:=l7) (n:=(Int.toNat (a3.length:Int))) (by first|rfl|simp only[w8d,w10d]),le_of_len (α:=Int) (l:=l7) (n:=(Int.toNat (a3.length:Int))) (by first|rfl|simp only[w8d,w10d]),frzs (α:=Int) l7,take_len (α:=Int) (l:=l7) (n:=(Int.toNat (a3.length:Int))) (by first|rfl|simp only[w8d,w10d]),le_of_len (α:=Int) (l:=l7) (n:=(Int.toNat (a3.length:Int))) (by first|rfl|simp only[w8d,w10d]),w54];exact fin_ret (by simp only[simprocAttr, -Int.reduceNatCast',R0,fn_out,p289,Rs.ev,take_len_self,h_0,w2,w4,w6,w8f,w8g,w8a,w8b,w8c,w8e,wx11,eq_false c12,eq_false c39,w52,frzs (α:=Int) l7,take_len (α:=Int) (l:=l7) (n:=(Int.toNat (a3.length:Int))) (by first|rfl|simp only[w8d,w10d]),le_of_len (α:=Int) (l:=l7) (n:=(Int.toNat (a3.length:Int))) (by first|rfl|simp only[w8d,w10d]),frzs (α:=Int) l7,take_len (α:=Int) (l:=l7) (n:=(Int.toNat (a3.length:Int))) (by first|rfl|simp only[w8d,w10d]),le_of_len (α:=Int) (l:=l7) (n:=(Int.toNat (a3.length:Int))) (by first|rfl|simp only[w8d,w10d]),w54,w8d,w10d])
def F249_2_S(a0:GComplex)(a1:GContraction)(v5_1:Int)(v6_2:Int):Option ((Int)⊕((Unit)⊕Bool)):=
 (F283 a0 v5_1).bind fun x9=>
if v6_2 < x9 then
 (F272 x9 v6_2).bind fun x12=>
 (F284 a0 a1 v5_1 x12).bind fun x14=>
 (F273 a0 v5_1 x14).bind fun x16=>
 (F285 x16).bind fun x18=>
 if x18=true then
  (F286 a0 a1 v5_1 x14).bind fun x20=>
  (F287 x20 x12).bind fun x22=>
  if x22=true then
   (F288 a0 a1 v5_1 x14).bind fun x24=>
   (F285 x24).bind fun x26=>
   if x26=true then
    (chk (v6_2+1)).bind fun x28=>
    some (.inl x28)
   else
    some (.inr (.inr false))
  else
   some (.inr (.inr false))
 else
  some (.inr (.inr false))
else
 some (.inr (.inl ()))
def F249_3_S(a0:GComplex)(a1:GContraction)(v5_1:Int)(v9_3:Int):Option ((Int)⊕((Unit)⊕Bool)):=
 (getI a0.Dims v5_1).bind fun x33=>
if v9_3 < x33 then
 (F272 x33 v9_3).bind fun x36=>
 (F289 a0 a1 v5_1 x36).bind fun x38=>
 if x38=true then
  (chk (v9_3+1)).bind fun x40=>
  some (.inl x40)
 else
  some (.inr (.inr false))
else
 some (.inr (.inl ()))
def F249_1_B(a0:GComplex)(a1:GContraction)(v5_1:Int)(s:Unit):Option ((Unit)⊕((Unit)⊕Bool)):=
 (loopW (F249_2_S a0 a1 v5_1) 0).bind fun t29=> match t29 with
 | .inl _=>
  (loopW (F249_3_S a0 a1 v5_1) 0).bind fun t41=> match t41 with
   | .inl _=>
    some (.inl ())
   | .inr r42=> some (.inr (.inr r42))
 | .inr r43=> some (.inr (.inr r43))
def F249_1_D(a0:GComplex)(a1:GContraction)(v5_1:Int)(s:Unit):Option ((Unit)⊕Bool):=
 some (.inl ())
def F249(a0:GComplex)(a1:GContraction):Option Bool:=
 (F282 a0 a1).bind fun x1=>
 if x1=true then
  (forR 0 (a0.Dims.length:Int) (F249_1_B a0 a1) (F249_1_D a0 a1) ()).bind fun t44=> match t44 with
   | .inl _=>
    some true
   | .inr r45=> some r45
 else
  some false
def I249_2(a0:GComplex)(a1:GContraction)(v5_1:Int)(v6_2:Int)(e:Env)(h:Heap):Prop:=
 ∃k7:Nat,h=⟨[(0,none),(0,none)],k7⟩∧e.length=84∧e.at 2=V.iptr [V.int .i64 a0.Prime,V.isl (a0.Dims.map Enc.enc),V.isl (a0.Maps.map Enc.enc)]∧e.at 3=V.iptr [V.isl (a1.Down.map Enc.enc),V.isl (a1.Up.map Enc.enc),V.isl (a1.Back.map Enc.enc)]∧e.at 5=V.int .i64 v5_1∧e.at 6=V.int .i64 v6_2
def P249_2(a0:GComplex)(a1:GContraction)(v5_1:Int)(t:(Unit)⊕Bool)(x:Ex)(e:Env)(h:Heap):Prop:=
 match t with
 | .inl _=> x= .normal∧∃k7:Nat,h=⟨[(0,none),(0,none)],k7⟩∧e.length=84∧e.at 2=V.iptr [V.int .i64 a0.Prime,V.isl (a0.Dims.map Enc.enc),V.isl (a0.Maps.map Enc.enc)]∧e.at 3=V.iptr [V.isl (a1.Down.map Enc.enc),V.isl (a1.Up.map Enc.enc),V.isl (a1.Back.map Enc.enc)]∧e.at 5=V.int .i64 v5_1
 | .inr r=> x= .ret∧Fin p249 (Enc.enc r) .ret e h
theorem l249_2(a0:GComplex)(a1:GContraction)(v5_1:Int){s:Int}{t:(Unit)⊕Bool}(hF:loopW (F249_2_S a0 a1 v5_1) s=some t){e:Env}{h:Heap}(hI:I249_2 a0 a1 v5_1 s e h):W A c249_2 e h (P249_2 a0 a1 v5_1 t):=by
 show W A (.block 2 (.loop false b249_2)) e h _;rw[W_block];refine W_loop hF 2 (by obtain⟨_,rfl,_⟩:=hI; rfl) (I249_2 a0 a1 v5_1) hI ?_
 ·rintro v6_2 e h ⟨k7,rfl,h_6⟩ o ho
  unfold F249_2_S at ho;obtain⟨x9,gx9,ho⟩:=bS ho;have w10:ans A 283 [(eC a0),V.int .i64 v5_1]=some (V.int .i64 x9):=s283 a0 v5_1 gx9;by_cases c11:v6_2 < x9
  ·rw[if_pos c11]at ho
   obtain⟨x12,gx12,ho⟩:=bS ho;have w13:ans A 272 [V.int .i64 x9,V.int .i64 v6_2]=some (V.isl (x12.map Enc.enc)):=s272 x9 v6_2 gx12;obtain⟨x14,gx14,ho⟩:=bS ho;have w15:ans A 284 [(eC a0),(eK a1),V.int .i64 v5_1,V.isl (x12.map Enc.enc)]=some (V.isl (x14.map Enc.enc)):=s284 a0 a1 v5_1 x12 gx14;obtain⟨x16,gx16,ho⟩:=bS ho;have w17:ans A 273 [(eC a0),V.int .i64 v5_1,V.isl (x14.map Enc.enc)]=some (V.isl (x16.map Enc.enc)):=s273 a0 v5_1 x14 gx16;obtain⟨x18,gx18,ho⟩:=bS ho;have w19:ans A 285 [V.isl (x16.map Enc.enc)]=some (V.bool x18):=s285 x16 gx18;cases x18 with
   |true=>
    rw[if_pos rfl]at ho;obtain⟨x20,gx20,ho⟩:=bS ho;have w21:ans A 286 [(eC a0),(eK a1),V.int .i64 v5_1,V.isl (x14.map Enc.enc)]=some (V.isl (x20.map Enc.enc)):=s286 a0 a1 v5_1 x14 gx20;obtain⟨x22,gx22,ho⟩:=bS ho;have w23:ans A 287 [V.isl (x20.map Enc.enc),V.isl (x12.map Enc.enc)]=some (V.bool x22):=s287 x20 x12 gx22;cases x22 with
    |true=>
     rw[if_pos rfl]at ho;obtain⟨x24,gx24,ho⟩:=bS ho;have w25:ans A 288 [(eC a0),(eK a1),V.int .i64 v5_1,V.isl (x14.map Enc.enc)]=some (V.isl (x24.map Enc.enc)):=s288 a0 a1 v5_1 x14 gx24;obtain⟨x26,gx26,ho⟩:=bS ho;have w27:ans A 285 [V.isl (x24.map Enc.enc)]=some (V.bool x26):=s285 x24 gx26;cases x26 with
     |true=>
      rw[if_pos rfl]at ho;obtain⟨x28,gx28,ho⟩:=bS ho;have wx28:=chk_w gx28;cases ho;simp only[simprocAttr,R0,b249_2,h_6,w10,eq_true c11,w13,w15,w17,w19,w21,w23,w25,w27,wx28];refine And.intro rfl (Exists.intro _ (And.intro rfl ?_));simp only[simprocAttr,R0,h_6,w10,eq_true c11,w13,w15,w17,w19,w21,w23,w25,w27,wx28]
     |false=>
      rw[if_neg Bool.false_ne_true]at ho;cases ho;simp only[simprocAttr,R0,b249_2,h_6,w10,eq_true c11,w13,w15,w17,w19,w21,w23,w25,w27];intro ht; subst ht;simp only[simprocAttr,RR,RB];exact And.intro rfl (fin_ret (by simp only[simprocAttr,R0,fn_out,p249,Rs.ev,take_len_self,h_6,w10,eq_true c11,w13,w15,w17,w19,w21,w23,w25,w27]))
    |false=>
     rw[if_neg Bool.false_ne_true]at ho;cases ho;simp only[simprocAttr,R0,b249_2,h_6,w10,eq_true c11,w13,w15,w17,w19,w21,w23];intro ht; subst ht;simp only[simprocAttr,RR,RB];exact And.intro rfl (fin_ret (by simp only[simprocAttr,R0,fn_out,p249,Rs.ev,take_len_self,h_6,w10,eq_true c11,w13,w15,w17,w19,w21,w23]))
   |false=>
    rw[if_neg Bool.false_ne_true]at ho;cases ho;simp only[simprocAttr,R0,b249_2,h_6,w10,eq_true c11,w13,w15,w17,w19];intro ht; subst ht;simp only[simprocAttr,RR,RB];exact And.intro rfl (fin_ret (by simp only[simprocAttr,R0,fn_out,p249,Rs.ev,take_len_self,h_6,w10,eq_true c11,w13,w15,w17,w19]))
  ·rw[if_neg c11]at ho
   cases ho;simp only[simprocAttr,R0,b249_2,h_6,w10,eq_false c11];intro ht; subst ht;simp only[simprocAttr,RR,RB];refine And.intro rfl (Exists.intro _ (And.intro rfl ?_));simp only[simprocAttr,R0,h_6,w10,eq_false c11]
def I249_3(a0:GComplex)(a1:GContraction)(v5_1:Int)(v9_3:Int)(e:Env)(h:Heap):Prop:=
 ∃k31:Nat,h=⟨[(0,none),(0,none)],k31⟩∧e.length=84∧e.at 2=V.iptr [V.int .i64 a0.Prime,V.isl (a0.Dims.map Enc.enc),V.isl (a0.Maps.map Enc.enc)]∧e.at 3=V.iptr [V.isl (a1.Down.map Enc.enc),V.isl (a1.Up.map Enc.enc),V.isl (a1.Back.map Enc.enc)]∧e.at 5=V.int .i64 v5_1∧e.at 9=V.int .i64 v9_3
def P249_3(a0:GComplex)(a1:GContraction)(v5_1:Int)(t:(Unit)⊕Bool)(x:Ex)(e:Env)(h:Heap):Prop:=
 match t with
 | .inl _=> x= .normal∧∃k31:Nat,h=⟨[(0,none),(0,none)],k31⟩∧e.length=84∧e.at 2=V.iptr [V.int .i64 a0.Prime,V.isl (a0.Dims.map Enc.enc),V.isl (a0.Maps.map Enc.enc)]∧e.at 3=V.iptr [V.isl (a1.Down.map Enc.enc),V.isl (a1.Up.map Enc.enc),V.isl (a1.Back.map Enc.enc)]∧e.at 5=V.int .i64 v5_1
 | .inr r=> x= .ret∧Fin p249 (Enc.enc r) .ret e h
theorem l249_3(a0:GComplex)(a1:GContraction)(v5_1:Int){s:Int}{t:(Unit)⊕Bool}(hF:loopW (F249_3_S a0 a1 v5_1) s=some t){e:Env}{h:Heap}(hI:I249_3 a0 a1 v5_1 s e h):W A c249_3 e h (P249_3 a0 a1 v5_1 t):=by
 show W A (.block 4 (.loop false b249_3)) e h _;rw[W_block];refine W_loop hF 2 (by obtain⟨_,rfl,_⟩:=hI; rfl) (I249_3 a0 a1 v5_1) hI ?_
 ·rintro v9_3 e h ⟨k31,rfl,h_30⟩ o ho
  unfold F249_3_S at ho;obtain⟨x33,gx33,ho⟩:=bS ho;obtain⟨w34a,w34b⟩:=getI_w gx33;by_cases c35:v9_3 < x33
  ·rw[if_pos c35]at ho
   obtain⟨x36,gx36,ho⟩:=bS ho;have w37:ans A 272 [V.int .i64 x33,V.int .i64 v9_3]=some (V.isl (x36.map Enc.enc)):=s272 x33 v9_3 gx36;obtain⟨x38,gx38,ho⟩:=bS ho;have w39:ans A 289 [(eC a0),(eK a1),V.int .i64 v5_1,V.isl (x36.map Enc.enc)]=some (V.bool x38):=s289 a0 a1 v5_1 x36 gx38;cases x38 with
   |true=>
    rw[if_pos rfl]at ho;obtain⟨x40,gx40,ho⟩:=bS ho;have wx40:=chk_w gx40;cases ho;simp only[simprocAttr,R0,b249_3,h_30,w34a,w34b,eq_true c35,w37,w39,wx40];refine And.intro rfl (Exists.intro _ (And.intro rfl ?_));simp only[simprocAttr,R0,h_30,w34a,w34b,eq_true c35,w37,w39,wx40]
   |false=>
    rw[if_neg Bool.false_ne_true]at ho;cases ho;simp only[simprocAttr,R0,b249_3,h_30,w34a,w34b,eq_true c35,w37,w39];intro ht; subst ht;simp only[simprocAttr,RR,RB];exact And.intro rfl (fin_ret (by simp only[simprocAttr,R0,fn_out,p249,Rs.ev,take_len_self,h_30,w34a,w34b,eq_true c35,w37,w39]))
  ·rw[if_neg c35]at ho
   cases ho;simp only[simprocAttr,R0,b249_3,h_30,w34a,w34b,eq_false c35];intro ht; subst ht;simp only[simprocAttr,RR,RB];refine And.intro rfl (Exists.intro _ (And.intro rfl ?_));simp only[simprocAttr,R0,h_30,w34a,w34b,eq_false c35]
def I249_1(a0:GComplex)(a1:GContraction)(v5_1:Int)(s:Unit)(e:Env)(h:Heap):Prop:=
 ∃k4:Nat,h=⟨[(0,none),(0,none)],k4⟩∧e.length=84∧e.at 2=V.iptr [V.int .i64 a0.Prime,V.isl (a0.Dims.map Enc.enc),V.isl (a0.Maps.map Enc.enc)]∧e.at 3=V.iptr [V.isl (a1.Down.map Enc.enc),V.isl (a1.Up.map Enc.enc),V.isl (a1.Back.map Enc.enc)]∧e.at 5=V.int .i64 v5_1
def P249_1(a0:GComplex)(a1:GContraction)(t:(Unit)⊕Bool)(x:Ex)(e:Env)(h:Heap):Prop:=
 match t with
 | .inl _=> x= .normal∧∃k4:Nat,h=⟨[(0,none),(0,none)],k4⟩∧e.length=84
 | .inr r=> x= .ret∧Fin p249 (Enc.enc r) .ret e h
theorem l249_1(a0:GComplex)(a1:GContraction){lo:Int}{s:Unit}{t:(Unit)⊕Bool}(hF:forR lo (a0.Dims.length:Int) (F249_1_B a0 a1) (F249_1_D a0 a1) s=some t){e:Env}{h:Heap}(hI:I249_1 a0 a1 lo s e h):W A c249_1 e h (P249_1 a0 a1 t):=by
 show W A (.block 0 (.loop false b249_1)) e h _;rw[W_block];refine W_forR hF 2 (by obtain⟨_,rfl,_⟩:=hI; rfl) (I249_1 a0 a1) hI ?_ ?_
 ·rintro v5_1 _ e h ⟨k4,rfl,h_3⟩ hlt hw o ho
  unfold F249_1_B at ho;obtain⟨t29,gt29,ho⟩:=bS ho;rcases t29 with _|r43
  ·dsimp only at ho
   simp only[simprocAttr,R0,b249_1,h_3,eq_true hlt,hw];refine W.mono (l249_2 a0 a1 v5_1 gt29 (Exists.intro _ (And.intro rfl ?_))) ?_
   ·simp only[simprocAttr,R0,h_3,eq_true hlt,hw]
   rintro _ e _ ⟨rfl,k7,rfl,h_8⟩;obtain⟨t41,gt41,ho⟩:=bS ho;rcases t41 with _|r42
   ·dsimp only at ho
    simp only[simprocAttr,R0,h_8,eq_true hlt,hw];refine W.mono (l249_3 a0 a1 v5_1 gt41 (Exists.intro _ (And.intro rfl ?_))) ?_
    ·simp only[simprocAttr,R0,h_8,eq_true hlt,hw]
    rintro _ e _ ⟨rfl,k31,rfl,h_32⟩;cases ho;simp only[simprocAttr,R0,h_32,eq_true hlt,hw];refine And.intro rfl (Exists.intro _ (And.intro rfl ?_));simp only[simprocAttr,R0,h_32,eq_true hlt,hw]
   ·dsimp only at ho
    cases ho;simp only[simprocAttr,R0,h_8,eq_true hlt,hw];refine W.mono (l249_3 a0 a1 v5_1 gt41 (Exists.intro _ (And.intro rfl ?_))) ?_
    ·simp only[simprocAttr,R0,h_8,eq_true hlt,hw]
    rintro _ e h ⟨rfl,hq⟩;simp only[simprocAttr,RR,RB];intro ht; subst ht;simp only[simprocAttr,RR,RB];exact And.intro rfl hq
  ·dsimp only at ho
   cases ho;simp only[simprocAttr,R0,b249_1,h_3,eq_true hlt,hw];refine W.mono (l249_2 a0 a1 v5_1 gt29 (Exists.intro _ (And.intro rfl ?_))) ?_
   ·simp only[simprocAttr,R0,h_3,eq_true hlt,hw]
   rintro _ e h ⟨rfl,hq⟩;simp only[simprocAttr,RR,RB];intro ht; subst ht;simp only[simprocAttr,RR,RB];exact And.intro rfl hq
 ·rintro v5_1 _ e h ⟨k4,rfl,h_3⟩ hge t1 ho
  unfold F249_1_D at ho;cases ho;simp only[simprocAttr,R0,b249_1,h_3,eq_false hge];intro ht; subst ht;refine And.intro rfl (Exists.intro _ (And.intro rfl ?_));simp only[simprocAttr,R0,h_3,eq_false hge]
theorem s249(a0:GComplex)(a1:GContraction){r:Bool}(hF:F249 a0 a1=some r):ans A 249 [(eC a0),(eK a1)]=some (Enc.enc r):=by
 refine ans_of (f:=p249) rfl rfl rfl fun e hl he=>?_;have h0_0:e.at 0=(eC a0):=he 0 _ rfl;have h1_0:e.at 1=(eK a1):=he 1 _ rfl;have hl_0:e.length=84:=hl;clear he hl;have h_0:=And.intro hl_0 (And.intro h0_0 h1_0);show W A b249 e ⟨[],0⟩ _;unfold F249 at hF;obtain⟨x1,gx1,hF⟩:=bS hF;have w2:ans A 282 [(eC a0),(eK a1)]=some (V.bool x1):=s282 a0 a1 gx1;cases x1 with
 |true=>
  rw[if_pos rfl]at hF;obtain⟨t44,gt44,hF⟩:=bS hF;rcases t44 with _|r45
  ·dsimp only at hF
   simp only[simprocAttr,R0,b249,h_0,w2];refine W.mono (l249_1 a0 a1 gt44 (Exists.intro _ (And.intro rfl ?_))) ?_
   ·simp only[simprocAttr,R0,h_0,w2]
   rintro _ e _ ⟨rfl,k4,rfl,hl_5⟩;cases hF;simp only[simprocAttr,R0,hl_5];exact fin_ret (by simp only[simprocAttr,R0,fn_out,p249,Rs.ev,take_len_self,hl_5])
  ·dsimp only at hF
   cases hF;simp only[simprocAttr,R0,b249,h_0,w2];refine W.mono (l249_1 a0 a1 gt44 (Exists.intro _ (And.intro rfl ?_))) ?_
   ·simp only[simprocAttr,R0,h_0,w2]
   rintro _ e h ⟨rfl,hq⟩;simp only[simprocAttr,RR,RB];exact hq
 |false=>
  rw[if_neg Bool.false_ne_true]at hF;cases hF;simp only[simprocAttr,R0,b249,h_0,w2];exact fin_ret (by simp only[simprocAttr,R0,fn_out,p249,Rs.ev,take_len_self,h_0,w2])
def F351(a0:GComplex)(a1:GContraction)(a2:List (List (List Int))):Option Int:=
 (F45 a0 a2).bind fun x1=>
 if x1=0 then
  (F249 a0 a1).bind fun x4=>
  if x4=true then
   (F46 a0 a2).bind fun x6=>
   (F39 x6).bind fun x8=>
   if x8=true then
    some x1
   else
    some 5
  else
   some 2
 else
  some x1
theorem s351(a0:GComplex)(a1:GContraction)(a2:List (List (List Int))){r:Int}(hF:F351 a0 a1 a2=some r):ans A 351 [(eC a0),(eK a1),V.isl (a2.map Enc.enc)]=some (Enc.enc r):=by
 refine ans_of (f:=p351) rfl rfl rfl fun e hl he=>?_;have h0_0:e.at 0=(eC a0):=he 0 _ rfl;have h1_0:e.at 1=(eK a1):=he 1 _ rfl;have h2_0:e.at 2=V.isl (a2.map Enc.enc):=he 2 _ rfl;have hl_0:e.length=29:=hl;clear he hl;have h_0:=And.intro hl_0 (And.intro h0_0 (And.intro h1_0 h2_0));show W A b351 e ⟨[],0⟩ _;unfold F351 at hF;obtain⟨x1,gx1,hF⟩:=bS hF;have w2:ans A 45 [(eC a0),V.isl (a2.map Enc.enc)]=some (V.int .i64 x1):=s45 a0 a2 gx1;by_cases c3:x1=0
 ·rw[if_pos c3]at hF
  obtain⟨x4,gx4,hF⟩:=bS hF;have w5:ans A 249 [(eC a0),(eK a1)]=some (V.bool x4):=s249 a0 a1 gx4;cases x4 with
  |true=>
   rw[if_pos rfl]at hF;obtain⟨x6,gx6,hF⟩:=bS hF;have w7:ans A 46 [(eC a0),V.isl (a2.map Enc.enc)]=some ((eC x6)):=s46 a0 a2 gx6;obtain⟨x8,gx8,hF⟩:=bS hF;have w9:ans A 39 [(eC x6)]=some (V.bool x8):=s39 x6 gx8;cases x8 with
   |true=>
    rw[if_pos rfl]at hF;cases hF;simp only[simprocAttr,R0,b351,h_0,w2,eq_true c3,w5,w7,w9];exact fin_ret (by simp only[simprocAttr,R0,fn_out,p351,Rs.ev,take_len_self,h_0,w2,eq_true c3,w5,w7,w9])
   |false=>
    rw[if_neg Bool.false_ne_true]at hF;cases hF;simp only[simprocAttr,R0,b351,h_0,w2,eq_true c3,w5,w7,w9];exact fin_ret (by simp only[simprocAttr,R0,fn_out,p351,Rs.ev,take_len_self,h_0,w2,eq_true c3,w5,w7,w9])
  |false=>
   rw[if_neg Bool.false_ne_true]at hF;cases hF;simp only[simprocAttr,R0,b351,h_0,w2,eq_true c3,w5];exact fin_ret (by simp only[simprocAttr,R0,fn_out,p351,Rs.ev,take_len_self,h_0,w2,eq_true c3,w5])
 ·rw[if_neg c3]at hF
  cases hF;simp only[simprocAttr,R0,b351,h_0,w2,eq_false c3];exact fin_ret (by simp only[simprocAttr,R0,fn_out,p351,Rs.ev,take_len_self,h_0,w2,eq_false c3])
def F357(a0:GComplex)(a1:GContraction)(a2:List (List (List Int)))(a3:Int)(a4:List Int):Option (List Int):=
 (chk (a3+1)).bind fun x1=>
 if(a0.Dims.length:Int)≤x1 then
  (mkL 8 (a4.length:Int) 0).bind fun l3=>
  some l3
 else
  (getI a2 a3).bind fun x5=>
  (F288 a0 a1 a3 a4).bind fun x7=>
  (F99 a0 a3).bind fun x9=>
  (F80 a0.Prime x5 x7 x9).bind fun x11=>
  some x11
theorem s357(a0:GComplex)(a1:GContraction)(a2:List (List (List Int)))(a3:Int)(a4:List Int){r:List Int}(hF:F357 a0 a1 a2 a3 a4=some r):ans A 357 [(eC a0),(eK a1),V.isl (a2.map Enc.enc),V.int .i64 a3,V.isl (a4.map Enc.enc)]=some (Enc.enc r):=by
 refine ans_of (f:=p357) rfl rfl rfl fun e hl he=>?_;have h0_0:e.at 0=(eC a0):=he 0 _ rfl;have h1_0:e.at 1=(eK a1):=he 1 _ rfl;have h2_0:e.at 2=V.isl (a2.map Enc.enc):=he 2 _ rfl;have h3_0:e.at 3=V.int .i64 a3:=he 3 _ rfl;have h4_0:e.at 4=V.isl (a4.map Enc.enc):=he 4 _ rfl;have hl_0:e.length=35:=hl;clear he hl;show W A b357 e ⟨[],0⟩ _;unfold F357 at hF;obtain⟨x1,gx1,hF⟩:=bS hF;have wx1:=chk_w gx1;by_cases c2:(a0.Dims.length:Int)≤x1
 ·rw[if_pos c2]at hF
  obtain⟨l3,gl3,hF⟩:=bS hF;obtain⟨w4a,w4b,w4c,w4d,w4e⟩:=mkL_w gl3;replace w4e:(List.replicate (Int.toNat (a4.length:Int)) [V.int .i64 0]).flatten=List.map Enc.enc l3:=w4e;have hE:=Option.some.inj hF; subst hE;simp only[simprocAttr, -Int.reduceNatCast',R0,b357,hl_0,h0_0,h1_0,h2_0,h3_0,h4_0,wx1,eq_true c2,w4a,w4b,w4c,w4e];exact fin_ret (by simp only[simprocAttr, -Int.reduceNatCast',R0,fn_out,p357,Rs.ev,take_len_self,hl_0,h0_0,h1_0,h2_0,h3_0,h4_0,wx1,eq_true c2,w4a,w4b,w4c,w4e,frzs (α:=Int) l3,takes (α:=Int) l3,take_len (α:=Int) (l:=l3) (n:=(Int.toNat (a4.length:Int))) (by first|rfl|simp only[w4d]),w4d])
 ·rw[if_neg c2]at hF
  obtain⟨x5,gx5,hF⟩:=bS hF;obtain⟨w6a,w6b⟩:=getI_w gx5;obtain⟨x7,gx7,hF⟩:=bS hF;have w8:ans A 288 [(eC a0),(eK a1),V.int .i64 a3,V.isl (a4.map Enc.enc)]=some (V.isl (x7.map Enc.enc)):=s288 a0 a1 a3 a4 gx7;obtain⟨x9,gx9,hF⟩:=bS hF;have w10:ans A 99 [(eC a0),V.int .i64 a3]=some (V.int .i64 x9):=s99 a0 a3 gx9;obtain⟨x11,gx11,hF⟩:=bS hF;have w12:ans A 80 [V.int .i64 a0.Prime,V.isl (x5.map Enc.enc),V.isl (x7.map Enc.enc),V.int .i64 x9]=some (V.isl (x11.map Enc.enc)):=s80 a0.Prime x5 x7 x9 gx11;have hE:=Option.some.inj hF; subst hE;simp only[simprocAttr, -Int.reduceNatCast',R0,b357,hl_0,h0_0,h1_0,h2_0,h3_0,h4_0,wx1,eq_false c2,w6a,w6b,w8,w10,w12];exact fin_ret (by simp only[simprocAttr, -Int.reduceNatCast',R0,fn_out,p357,Rs.ev,take_len_self,hl_0,h0_0,h1_0,h2_0,h3_0,h4_0,wx1,eq_false c2,w6a,w6b,w8,w10,w12])
def F352_3_S(a0:GComplex)(a1:GContraction)(a2:List (List (List Int)))(v9_1:Int)(v10_2:Int)(s:Int×(List Int)×Int):Option ((Int×(List Int)×Int)⊕((Int)⊕(T2 Int Bool))):=
 match s with
 |(v8_3,v11_3,v12_3)=>
  (F285 v11_3).bind fun x15=>
  if x15=true then
   some (.inr (.inl v8_3))
  else
   if v12_3=9 then
    some (.inr (.inr ⟨0,false⟩))
   else
    (F357 a0 a1 a2 v9_1 v11_3).bind fun x18=>
    (chk (v12_3+1)).bind fun x20=>
    some (.inl ((if x20 > v8_3 then x20 else v8_3),x18,x20))
def F352_2_S(a0:GComplex)(a1:GContraction)(a2:List (List (List Int)))(v9_1:Int)(s:Int×Int):Option ((Int×Int)⊕((Int)⊕(T2 Int Bool))):=
 match s with
 |(v8_2,v10_2)=>
  (getI a0.Dims v9_1).bind fun x7=>
  if v10_2 < x7 then
   (F272 x7 v10_2).bind fun x10=>
   (loopW (F352_3_S a0 a1 a2 v9_1 v10_2) (v8_2,x10,0)).bind fun t21=> match t21 with
    | .inl zv8_3=>
     (chk (v10_2+1)).bind fun x22=>
     some (.inl (zv8_3,x22))
    | .inr r23=> some (.inr (.inr r23))
  else
   some (.inr (.inl v8_2))
def F352_1_B(a0:GComplex)(a1:GContraction)(a2:List (List (List Int)))(v9_1:Int)(v8_1:Int):Option ((Int)⊕((Int)⊕(T2 Int Bool))):=
 (loopW (F352_2_S a0 a1 a2 v9_1) (v8_1,0)).bind fun t24=> match t24 with
 | .inl zv8_2=>
  some (.inl zv8_2)
 | .inr r25=> some (.inr (.inr r25))
def F352_1_D(a0:GComplex)(a1:GContraction)(a2:List (List (List Int)))(v9_1:Int)(v8_1:Int):Option ((Int)⊕(T2 Int Bool)):=
 some (.inl v8_1)
def F352(a0:GComplex)(a1:GContraction)(a2:List (List (List Int))):Option (T2 Int Bool):=
 (forR 0 (a0.Dims.length:Int) (F352_1_B a0 a1 a2) (F352_1_D a0 a1 a2) 0).bind fun t26=> match t26 with
  | .inl zv8_1=>
   some ⟨zv8_1,true⟩
  | .inr r27=> some r27
def I352_3(a0:GComplex)(a1:GContraction)(a2:List (List (List Int)))(v9_1:Int)(v10_2:Int)(s:Int×(List Int)×Int)(e:Env)(h:Heap):Prop:=
 match s with
 |(v8_3,v11_3,v12_3)=>
  ∃k13:Nat,h=⟨[(0,none),(0,none)],k13⟩∧e.length=54∧e.at 2=V.isl (a2.map Enc.enc)∧e.at 3=V.iptr [V.int .i64 a0.Prime,V.isl (a0.Dims.map Enc.enc),V.isl (a0.Maps.map Enc.enc)]∧e.at 4=V.iptr [V.isl (a1.Down.map Enc.enc),V.isl (a1.Up.map Enc.enc),V.isl (a1.Back.map Enc.enc)]∧e.at 8=V.int .i64 v8_3∧e.at 9=V.int .i64 v9_1∧e.at 10=V.int .i64 v10_2∧e.at 11=V.isl (v11_3.map Enc.enc)∧e.at 12=V.int .i64 v12_3
def P352_3(a0:GComplex)(a1:GContraction)(a2:List (List (List Int)))(v9_1:Int)(v10_2:Int)(t:(Int)⊕(T2 Int Bool))(x:Ex)(e:Env)(h:Heap):Prop:=
 match t with
 | .inl zv8_3=> x= .normal∧∃k13:Nat,h=⟨[(0,none),(0,none)],k13⟩∧e.length=54∧e.at 2=V.isl (a2.map Enc.enc)∧e.at 3=V.iptr [V.int .i64 a0.Prime,V.isl (a0.Dims.map Enc.enc),V.isl (a0.Maps.map Enc.enc)]∧e.at 4=V.iptr [V.isl (a1.Down.map Enc.enc),V.isl (a1.Up.map Enc.enc),V.isl (a1.Back.map Enc.enc)]∧e.at 8=V.int .i64 zv8_3∧e.at 9=V.int .i64 v9_1∧e.at 10=V.int .i64 v10_2
 | .inr r=> x= .ret∧Fin p352 (EncR.enc r) .ret e h
theorem l352_3(a0:GComplex)(a1:GContraction)(a2:List (List (List Int)))(v9_1:Int)(v10_2:Int){s:Int×(List Int)×Int}{t:(Int)⊕(T2 Int Bool)}(hF:loopW (F352_3_S a0 a1 a2 v9_1 v10_2) s=some t){e:Env}{h:Heap}(hI:I352_3 a0 a1 a2 v9_1 v10_2 s e h):W A c352_3 e h (P352_3 a0 a1 a2 v9_1 v10_2 t):=by
 show W A (.block 4 (.loop false b352_3)) e h _;rw[W_block];refine W_loop hF 2 (by rcases s with⟨_,_,_⟩; obtain⟨_,rfl,_⟩:=hI; rfl) (I352_3 a0 a1 a2 v9_1 v10_2) hI ?_
 ·rintro⟨v8_3,v11_3,v12_3⟩ e h ⟨k13,rfl,h_12⟩ o ho
  unfold F352_3_S at ho;dsimp only at ho;obtain⟨x15,gx15,ho⟩:=bS ho;have w16:ans A 285 [V.isl (v11_3.map Enc.enc)]=some (V.bool x15):=s285 v11_3 gx15;cases x15 with
  |true=>
   rw[if_pos rfl]at ho;cases ho;simp only[simprocAttr,R0,b352_3,h_12,w16];intro ht; subst ht;simp only[simprocAttr,RR,RB];refine And.intro rfl (Exists.intro _ (And.intro rfl ?_));simp only[simprocAttr,R0,h_12,w16]
  |false=>
   rw[if_neg Bool.false_ne_true]at ho;by_cases c17:v12_3=9
   ·rw[if_pos c17]at ho
    cases ho;simp only[simprocAttr,R0,b352_3,h_12,w16,eq_true c17];intro ht; subst ht;simp only[simprocAttr,RR,RB];exact And.intro rfl (fin_ret (by simp only[simprocAttr,R0,fn_out,p352,Rs.ev,take_len_self,h_12,w16,eq_true c17]))
   ·rw[if_neg c17]at ho
    obtain⟨x18,gx18,ho⟩:=bS ho;have w19:ans A 357 [(eC a0),(eK a1),V.isl (a2.map Enc.enc),V.int .i64 v9_1,V.isl (v11_3.map Enc.enc)]=some (V.isl (x18.map Enc.enc)):=s357 a0 a1 a2 v9_1 v11_3 gx18;obtain⟨x20,gx20,ho⟩:=bS ho;have wx20:=chk_w gx20;cases ho;simp only[simprocAttr,R0,b352_3,h_12,w16,eq_false c17,w19,wx20];refine And.intro rfl (Exists.intro _ (And.intro rfl ?_));simp only[simprocAttr,R0,h_12,w16,eq_false c17,w19,wx20]
def I352_2(a0:GComplex)(a1:GContraction)(a2:List (List (List Int)))(v9_1:Int)(s:Int×Int)(e:Env)(h:Heap):Prop:=
 match s with
 |(v8_2,v10_2)=>
  ∃k5:Nat,h=⟨[(0,none),(0,none)],k5⟩∧e.length=54∧e.at 2=V.isl (a2.map Enc.enc)∧e.at 3=V.iptr [V.int .i64 a0.Prime,V.isl (a0.Dims.map Enc.enc),V.isl (a0.Maps.map Enc.enc)]∧e.at 4=V.iptr [V.isl (a1.Down.map Enc.enc),V.isl (a1.Up.map Enc.enc),V.isl (a1.Back.map Enc.enc)]∧e.at 8=V.int .i64 v8_2∧e.at 9=V.int .i64 v9_1∧e.at 10=V.int .i64 v10_2
def P352_2(a0:GComplex)(a1:GContraction)(a2:List (List (List Int)))(v9_1:Int)(t:(Int)⊕(T2 Int Bool))(x:Ex)(e:Env)(h:Heap):Prop:=
 match t with
 | .inl zv8_2=> x= .normal∧∃k5:Nat,h=⟨[(0,none),(0,none)],k5⟩∧e.length=54∧e.at 2=V.isl (a2.map Enc.enc)∧e.at 3=V.iptr [V.int .i64 a0.Prime,V.isl (a0.Dims.map Enc.enc),V.isl (a0.Maps.map Enc.enc)]∧e.at 4=V.iptr [V.isl (a1.Down.map Enc.enc),V.isl (a1.Up.map Enc.enc),V.isl (a1.Back.map Enc.enc)]∧e.at 8=V.int .i64 zv8_2∧e.at 9=V.int .i64 v9_1
 | .inr r=> x= .ret∧Fin p352 (EncR.enc r) .ret e h
theorem l352_2(a0:GComplex)(a1:GContraction)(a2:List (List (List Int)))(v9_1:Int){s:Int×Int}{t:(Int)⊕(T2 Int Bool)}(hF:loopW (F352_2_S a0 a1 a2 v9_1) s=some t){e:Env}{h:Heap}(hI:I352_2 a0 a1 a2 v9_1 s e h):W A c352_2 e h (P352_2 a0 a1 a2 v9_1 t):=by
 show W A (.block 2 (.loop false b352_2)) e h _;rw[W_block];refine W_loop hF 2 (by rcases s with⟨_,_⟩; obtain⟨_,rfl,_⟩:=hI; rfl) (I352_2 a0 a1 a2 v9_1) hI ?_
 ·rintro⟨v8_2,v10_2⟩ e h ⟨k5,rfl,h_4⟩ o ho
  unfold F352_2_S at ho;dsimp only at ho;obtain⟨x7,gx7,ho⟩:=bS ho;obtain⟨w8a,w8b⟩:=getI_w gx7;by_cases c9:v10_2 < x7
  ·rw[if_pos c9]at ho
   obtain⟨x10,gx10,ho⟩:=bS ho;have w11:ans A 272 [V.int .i64 x7,V.int .i64 v10_2]=some (V.isl (x10.map Enc.enc)):=s272 x7 v10_2 gx10;obtain⟨t21,gt21,ho⟩:=bS ho;rcases t21 with zv8_3|r23
   ·dsimp only at ho
    simp only[simprocAttr,R0,b352_2,h_4,w8a,w8b,eq_true c9,w11];refine W.mono (l352_3 a0 a1 a2 v9_1 v10_2 gt21 (Exists.intro _ (And.intro rfl ?_))) ?_
    ·simp only[simprocAttr,R0,h_4,w8a,w8b,eq_true c9,w11]
    rintro _ e _ ⟨rfl,k13,rfl,h_14⟩;obtain⟨x22,gx22,ho⟩:=bS ho;have wx22:=chk_w gx22;cases ho;simp only[simprocAttr,R0,h_14,eq_true c9,wx22];refine And.intro rfl (Exists.intro _ (And.intro rfl ?_));simp only[simprocAttr,R0,h_14,eq_true c9,wx22]
   ·dsimp only at ho
    cases ho;simp only[simprocAttr,R0,b352_2,h_4,w8a,w8b,eq_true c9,w11];refine W.mono (l352_3 a0 a1 a2 v9_1 v10_2 gt21 (Exists.intro _ (And.intro rfl ?_))) ?_
    ·simp only[simprocAttr,R0,h_4,w8a,w8b,eq_true c9,w11]
    rintro _ e h ⟨rfl,hq⟩;simp only[simprocAttr,RR,RB];intro ht; subst ht;simp only[simprocAttr,RR,RB];exact And.intro rfl hq
  ·rw[if_neg c9]at ho
   cases ho;simp only[simprocAttr,R0,b352_2,h_4,w8a,w8b,eq_false c9];intro ht; subst ht;simp only[simprocAttr,RR,RB];refine And.intro rfl (Exists.intro _ (And.intro rfl ?_));simp only[simprocAttr,R0,h_4,w8a,w8b,eq_false c9]
def I352_1(a0:GComplex)(a1:GContraction)(a2:List (List (List Int)))(v9_1:Int)(v8_1:Int)(e:Env)(h:Heap):Prop:=
 ∃k2:Nat,h=⟨[(0,none),(0,none)],k2⟩∧e.length=54∧e.at 2=V.isl (a2.map Enc.enc)∧e.at 3=V.iptr [V.int .i64 a0.Prime,V.isl (a0.Dims.map Enc.enc),V.isl (a0.Maps.map Enc.enc)]∧e.at 4=V.iptr [V.isl (a1.Down.map Enc.enc),V.isl (a1.Up.map Enc.enc),V.isl (a1.Back.map Enc.enc)]∧e.at 8=V.int .i64 v8_1∧e.at 9=V.int .i64 v9_1
def P352_1(a0:GComplex)(a1:GContraction)(a2:List (List (List Int)))(t:(Int)⊕(T2 Int Bool))(x:Ex)(e:Env)(h:Heap):Prop:=
 match t with
 | .inl zv8_1=> x= .normal∧∃k2:Nat,h=⟨[(0,none),(0,none)],k2⟩∧e.length=54∧e.at 8=V.int .i64 zv8_1
 | .inr r=> x= .ret∧Fin p352 (EncR.enc r) .ret e h
theorem l352_1(a0:GComplex)(a1:GContraction)(a2:List (List (List Int))){lo:Int}{s:Int}{t:(Int)⊕(T2 Int Bool)}(hF:forR lo (a0.Dims.length:Int) (F352_1_B a0 a1 a2) (F352_1_D a0 a1 a2) s=some t){e:Env}{h:Heap}(hI:I352_1 a0 a1 a2 lo s e h):W A c352_1 e h (P352_1 a0 a1 a2 t):=by
 show W A (.block 0 (.loop false b352_1)) e h _;rw[W_block];refine W_forR hF 2 (by obtain⟨_,rfl,_⟩:=hI; rfl) (I352_1 a0 a1 a2) hI ?_ ?_
 ·rintro v9_1 v8_1 e h ⟨k2,rfl,h_1⟩ hlt hw o ho
  unfold F352_1_B at ho;obtain⟨t24,gt24,ho⟩:=bS ho;rcases t24 with zv8_2|r25
  ·dsimp only at ho
   simp only[simprocAttr,R0,b352_1,h_1,eq_true hlt,hw];refine W.mono (l352_2 a0 a1 a2 v9_1 gt24 (Exists.intro _ (And.intro rfl ?_))) ?_
   ·simp only[simprocAttr,R0,h_1,eq_true hlt,hw]
   rintro _ e _ ⟨rfl,k5,rfl,h_6⟩;cases ho;simp only[simprocAttr,R0,h_6,eq_true hlt,hw];refine And.intro rfl (Exists.intro _ (And.intro rfl ?_));simp only[simprocAttr,R0,h_6,eq_true hlt,hw]
  ·dsimp only at ho
   cases ho;simp only[simprocAttr,R0,b352_1,h_1,eq_true hlt,hw];refine W.mono (l352_2 a0 a1 a2 v9_1 gt24 (Exists.intro _ (And.intro rfl ?_))) ?_
   ·simp only[simprocAttr,R0,h_1,eq_true hlt,hw]
   rintro _ e h ⟨rfl,hq⟩;simp only[simprocAttr,RR,RB];intro ht; subst ht;simp only[simprocAttr,RR,RB];exact And.intro rfl hq
 ·rintro v9_1 v8_1 e h ⟨k2,rfl,h_1⟩ hge t1 ho
  unfold F352_1_D at ho;cases ho;simp only[simprocAttr,R0,b352_1,h_1,eq_false hge];intro ht; subst ht;refine And.intro rfl (Exists.intro _ (And.intro rfl ?_));simp only[simprocAttr,R0,h_1,eq_false hge]
theorem s352(a0:GComplex)(a1:GContraction)(a2:List (List (List Int))){r:T2 Int Bool}(hF:F352 a0 a1 a2=some r):ans A 352 [(eC a0),(eK a1),V.isl (a2.map Enc.enc)]=some (EncR.enc r):=by
 refine ans_of (f:=p352) rfl rfl rfl fun e hl he=>?_;have h0_0:e.at 0=(eC a0):=he 0 _ rfl;have h1_0:e.at 1=(eK a1):=he 1 _ rfl;have h2_0:e.at 2=V.isl (a2.map Enc.enc):=he 2 _ rfl;have hl_0:e.length=54:=hl;clear he hl;have h_0:=And.intro hl_0 (And.intro h0_0 (And.intro h1_0 h2_0));show W A b352 e ⟨[],0⟩ _;unfold F352 at hF;obtain⟨t26,gt26,hF⟩:=bS hF;rcases t26 with zv8_1|r27
 ·dsimp only at hF
  simp only[simprocAttr,R0,b352,h_0];refine W.mono (l352_1 a0 a1 a2 gt26 (Exists.intro _ (And.intro rfl ?_))) ?_
  ·simp only[simprocAttr,R0,h_0]
  rintro _ e _ ⟨rfl,k2,rfl,h_3⟩;cases hF;simp only[simprocAttr,R0,h_3];exact fin_ret (by simp only[simprocAttr,R0,fn_out,p352,Rs.ev,take_len_self,h_3])
 ·dsimp only at hF
  cases hF;simp only[simprocAttr,R0,b352,h_0];refine W.mono (l352_1 a0 a1 a2 gt26 (Exists.intro _ (And.intro rfl ?_))) ?_
  ·simp only[simprocAttr,R0,h_0]
  rintro _ e h ⟨rfl,hq⟩;simp only[simprocAttr,RR,RB];exact hq
def F350_4_B(a0:GComplex)(a1:GContraction)(a2:List (List (List Int)))(x4:T2 Int Bool)(o4_1:List (List (List Int)))(q5_0_1:Int)(v12_1:Int)(x12:Int)(l15:List Int)(o7_2:List (List Int))(v14_2:Int)(v15_3:List Int)(v17_3:Int)(v18_4:Int)(o8_4:(List Int)):Option (((List Int))⊕((List Int))):=
 (getI o8_4 v18_4).bind fun x45=>
(getI v15_3 v18_4).bind fun x47=>
(remI v17_3 2).bind fun x49=>
(chk (2*x49)).bind fun x51=>
(chk (1 - x51)).bind fun x52=>
(chk (x47*x52)).bind fun x53=>
(chk (x45+x53)).bind fun x54=>
(F127 a0.Prime x54).bind fun x55=>
(setI o8_4 v18_4 x55).bind fun l57=>
some (.inl l57)
def F350_4_D(a0:GComplex)(a1:GContraction)(a2:List (List (List Int)))(x4:T2 Int Bool)(o4_1:List (List (List Int)))(q5_0_1:Int)(v12_1:Int)(x12:Int)(l15:List Int)(o7_2:List (List Int))(v14_2:Int)(v15_3:List Int)(v17_3:Int)(v18_4:Int)(o8_4:(List Int)):Option ((List Int)):=
 some o8_4
def F350_3_B(a0:GComplex)(a1:GContraction)(a2:List (List (List Int)))(x4:T2 Int Bool)(o4_1:List (List (List Int)))(q5_0_1:Int)(v12_1:Int)(x12:Int)(l15:List Int)(o7_2:List (List Int))(v14_2:Int)(v17_3:Int)(s:(List Int)×(List Int)):Option (((List Int)×(List Int))⊕((List Int))):=
 match s with
 |(o8_3,v15_3)=>
  (forR 0 (v15_3.length:Int) (F350_4_B a0 a1 a2 x4 o4_1 q5_0_1 v12_1 x12 l15 o7_2 v14_2 v15_3 v17_3) (F350_4_D a0 a1 a2 x4 o4_1 q5_0_1 v12_1 x12 l15 o7_2 v14_2 v15_3 v17_3) o8_3).bind fun zo8_4=>
  (chk (v12_1 - 1)).bind fun x60=>
  (F357 a0 a1 a2 x60 v15_3).bind fun x61=>
  some (.inl (zo8_4,x61))
def F350_3_D(a0:GComplex)(a1:GContraction)(a2:List (List (List Int)))(x4:T2 Int Bool)(o4_1:List (List (List Int)))(q5_0_1:Int)(v12_1:Int)(x12:Int)(l15:List Int)(o7_2:List (List Int))(v14_2:Int)(v17_3:Int)(s:(List Int)×(List Int)):Option ((List Int)):=
 match s with
 |(o8_3,v15_3)=>
  some o8_3
def F350_2_S(a0:GComplex)(a1:GContraction)(a2:List (List (List Int)))(x4:T2 Int Bool)(o4_1:List (List (List Int)))(q5_0_1:Int)(v12_1:Int)(x12:Int)(l15:List Int)(s:(List (List Int))×Int):Option (((List (List Int))×Int)⊕((List (List Int)))):=
 match s with
 |(o7_2,v14_2)=>
  (getI l15 v12_1).bind fun x21=>
  if v14_2 < x21 then
   (chk (v12_1 - 1)).bind fun x24=>
   (getI a2 x24).bind fun x25=>
   (F272 x21 v14_2).bind fun x27=>
   (F284 a0 a1 v12_1 x27).bind fun x29=>
   (F99 a0 x24).bind fun x31=>
   (F80 a0.Prime x25 x29 x31).bind fun x33=>
   (mkL 8 (x33.length:Int) 0).bind fun l35=>
   (forR 0 x4.a (F350_3_B a0 a1 a2 x4 o4_1 q5_0_1 v12_1 x12 l15 o7_2 v14_2) (F350_3_D a0 a1 a2 x4 o4_1 q5_0_1 v12_1 x12 l15 o7_2 v14_2) (l35,x33)).bind fun zo8_3=>
   (F286 a0 a1 x24 zo8_3).bind fun x64=>
   (app 24 o7_2 [x64]).bind fun l67=>
   (chk (v14_2+1)).bind fun x68=>
   some (.inl (l67,x68))
  else
   some (.inr o7_2)
def F350_1_B(a0:GComplex)(a1:GContraction)(a2:List (List (List Int)))(x4:T2 Int Bool)(v12_1:Int)(s:(List Int)×(List (List (List Int)))×Int):Option (((List Int)×(List (List (List Int)))×Int)⊕((List Int)×(List (List (List Int)))×Int)):=
 match s with
 |(o3_1,o4_1,q5_0_1)=>
  (F283 a0 v12_1).bind fun x12=>
  (app 8 o3_1 [x12]).bind fun l15=>
  if v12_1=0 then
   some (.inl (l15,o4_1,q5_0_1))
  else
   (loopW (F350_2_S a0 a1 a2 x4 o4_1 q5_0_1 v12_1 x12 l15) ([],0)).bind fun zo7_2=>
   (app 24 o4_1 [zo7_2]).bind fun l71=>
   some (.inl (l15,l71,q5_0_1))
def F350_1_D(a0:GComplex)(a1:GContraction)(a2:List (List (List Int)))(x4:T2 Int Bool)(v12_1:Int)(s:(List Int)×(List (List (List Int)))×Int):Option ((List Int)×(List (List (List Int)))×Int):=
 match s with
 |(o3_1,o4_1,q5_0_1)=>
  some (o3_1,o4_1,q5_0_1)
def F350(a0:GComplex)(a1:GContraction)(a2:List (List (List Int))):Option (T2 GComplex Int):=
 (F351 a0 a1 a2).bind fun x1=>
 if x1=0 then
  (F352 a0 a1 a2).bind fun x4=>
  if x4.b=true then
   (forR 0 (a0.Dims.length:Int) (F350_1_B a0 a1 a2 x4) (F350_1_D a0 a1 a2 x4) ([],[],a0.Prime)).bind fun t72=> match t72 with
    |(zo3_1,zo4_1,zq5_0_1)=>
     some ⟨⟨zq5_0_1,zo3_1,zo4_1⟩,0⟩
  else
   some ⟨⟨0,[],[]⟩,5⟩
 else
  some ⟨⟨0,[],[]⟩,x1⟩
def I350_4(a0:GComplex)(a1:GContraction)(a2:List (List (List Int)))(x4:T2 Int Bool)(o4_1:List (List (List Int)))(q5_0_1:Int)(v12_1:Int)(x12:Int)(l15:List Int)(o7_2:List (List Int))(v14_2:Int)(v15_3:List Int)(v17_3:Int)(u8 u9 k10 u18:Nat)(v18_4:Int)(o8_4:(List Int))(e:Env)(h:Heap):Prop:=
 ∃u42 k43:Nat,h=⟨[(0,none),(0,none),(2,some [V.int .i64 0,V.nils,V.nils]),((appU 1 u8 (k10+1)),some (l15.map Enc.enc)),(u9,some (o4_1.map Enc.enc)),(5,some [V.int .i64 q5_0_1,V.sl 3 (appU 1 u8 (k10+1)) 0 l15.length 1,V.sl 4 u9 0 o4_1.length 1]),(k10,some [V.int .i64 x12]),(u18,some (o7_2.map Enc.enc)),(u42,some (o8_4.map Enc.enc))],k43⟩∧e.length=149∧e.at 2=V.isl (a2.map Enc.enc)∧e.at 3=V.iptr [V.int .i64 a0.Prime,V.isl (a0.Dims.map Enc.enc),V.isl (a0.Maps.map Enc.enc)]∧e.at 4=V.iptr [V.isl (a1.Down.map Enc.enc),V.isl (a1.Up.map Enc.enc),V.isl (a1.Back.map Enc.enc)]∧e.at 6=V.ptr 2 2 0∧e.at 9=V.int .i64 x4.a∧e.at 11=V.ptr 5 5 0∧e.at 12=V.int .i64 v12_1∧e.at 13=V.sl 7 u18 0 o7_2.length 1∧e.at 14=V.int .i64 v14_2∧e.at 15=V.isl (v15_3.map Enc.enc)∧e.at 16=V.sl 8 u42 0 o8_4.length 1∧e.at 17=V.int .i64 v17_3∧e.at 18=V.int .i64 v18_4
def P350_4(a0:GComplex)(a1:GContraction)(a2:List (List (List Int)))(x4:T2 Int Bool)(o4_1:List (List (List Int)))(q5_0_1:Int)(v12_1:Int)(x12:Int)(l15:List Int)(o7_2:List (List Int))(v14_2:Int)(v15_3:List Int)(v17_3:Int)(u8 u9 k10 u18:Nat)(zo8_4:(List Int))(x:Ex)(e:Env)(h:Heap):Prop:=
 x= .normal∧∃u42 k43:Nat,h=⟨[(0,none),(0,none),(2,some [V.int .i64 0,V.nils,V.nils]),((appU 1 u8 (k10+1)),some (l15.map Enc.enc)),(u9,some (o4_1.map Enc.enc)),(5,some [V.int .i64 q5_0_1,V.sl 3 (appU 1 u8 (k10+1)) 0 l15.length 1,V.sl 4 u9 0 o4_1.length 1]),(k10,some [V.int .i64 x12]),(u18,some (o7_2.map Enc.enc)),(u42,some (zo8_4.map Enc.enc))],k43⟩∧e.length=149∧e.at 2=V.isl (a2.map Enc.enc)∧e.at 3=V.iptr [V.int .i64 a0.Prime,V.isl (a0.Dims.map Enc.enc),V.isl (a0.Maps.map Enc.enc)]∧e.at 4=V.iptr [V.isl (a1.Down.map Enc.enc),V.isl (a1.Up.map Enc.enc),V.isl (a1.Back.map Enc.enc)]∧e.at 6=V.ptr 2 2 0∧e.at 9=V.int .i64 x4.a∧e.at 11=V.ptr 5 5 0∧e.at 12=V.int .i64 v12_1∧e.at 13=V.sl 7 u18 0 o7_2.length 1∧e.at 14=V.int .i64 v14_2∧e.at 15=V.isl (v15_3.map Enc.enc)∧e.at 16=V.sl 8 u42 0 zo8_4.length 1∧e.at 17=V.int .i64 v17_3
theorem l350_4(a0:GComplex)(a1:GContraction)(a2:List (List (List Int)))(x4:T2 Int Bool)(o4_1:List (List (List Int)))(q5_0_1:Int)(v12_1:Int)(x12:Int)(l15:List Int)(o7_2:List (List Int))(v14_2:Int)(v15_3:List Int)(v17_3:Int)(u8 u9 k10 u18:Nat){lo:Int}{s:(List Int)}{t:(List Int)}(hF:forR lo (v15_3.length:Int) (F350_4_B a0 a1 a2 x4 o4_1 q5_0_1 v12_1 x12 l15 o7_2 v14_2 v15_3 v17_3) (F350_4_D a0 a1 a2 x4 o4_1 q5_0_1 v12_1 x12 l15 o7_2 v14_2 v15_3 v17_3) s=some t){e:Env}{h:Heap}(hI:I350_4 a0 a1 a2 x4 o4_1 q5_0_1 v12_1 x12 l15 o7_2 v14_2 v15_3 v17_3 u8 u9 k10 u18 lo s e h):W A c350_4 e h (P350_4 a0 a1 a2 x4 o4_1 q5_0_1 v12_1 x12 l15 o7_2 v14_2 v15_3 v17_3 u8 u9 k10 u18 t):=by
 show W A (.block 6 (.loop false b350_4)) e h _;rw[W_block];refine W_forR hF 9 (by obtain⟨_,_,rfl,_⟩:=hI; rfl) (I350_4 a0 a1 a2 x4 o4_1 q5_0_1 v12_1 x12 l15 o7_2 v14_2 v15_3 v17_3 u8 u9 k10 u18) hI ?_ ?_
 ·rintro v18_4 o8_4 e h ⟨u42,k43,rfl,h_41⟩ hlt hw o ho
  unfold F350_4_B at ho;obtain⟨x45,gx45,ho⟩:=bS ho;obtain⟨w46a,w46b⟩:=getI_w gx45;have w46c:=getI_lt gx45;have w46d:List.drop (Int.toNat v18_4) (o8_4.map Enc.enc)=(V.int .i64 x45)::List.drop ((Int.toNat v18_4)+1) (o8_4.map Enc.enc):=drop_enc w46b;obtain⟨x47,gx47,ho⟩:=bS ho;obtain⟨w48a,w48b⟩:=getI_w gx47;obtain⟨x49,gx49,ho⟩:=bS ho;obtain⟨w50a,w50b⟩:=rem_w gx49;obtain⟨x51,gx51,ho⟩:=bS ho;have wx51:=chk_w gx51;obtain⟨x52,gx52,ho⟩:=bS ho;have wx52:=chk_w gx52;obtain⟨x53,gx53,ho⟩:=bS ho;have wx53:=chk_w gx53;obtain⟨x54,gx54,ho⟩:=bS ho;have wx54:=chk_w gx54;obtain⟨x55,gx55,ho⟩:=bS ho;have w56:ans A 127 [V.int .i64 a0.Prime,V.int .i64 x54]=some (V.int .i64 x55):=s127 a0.Prime x54 gx55;obtain⟨l57,gl57,ho⟩:=bS ho;obtain⟨w58a,w58b,w58c,w58d,w58e⟩:=setI_w gl57;replace w58e:List.take (Int.toNat v18_4) (o8_4.map Enc.enc)++[V.int .i64 x55]++List.drop (Int.toNat v18_4+1) (o8_4.map Enc.enc)=List.map Enc.enc l57:=w58e;cases ho;simp only[simprocAttr,R0,b350_4,h_41,eq_true hlt,hw,w46a,w46b,w46c,w46d,w48a,w48b,eq_false w50a,w50b,wx51,wx52,wx53,wx54,w56,w58a,w58b,w58c,w58e];refine And.intro rfl (Exists.intro _ (Exists.intro _ (And.intro rfl ?_)));simp only[simprocAttr,R0,h_41,eq_true hlt,hw,w46a,w46b,w46c,w46d,w48a,w48b,eq_false w50a,w50b,wx51,wx52,wx53,wx54,w56,w58a,w58b,w58c,w58e,w58d]
 ·rintro v18_4 o8_4 e h ⟨u42,k43,rfl,h_41⟩ hge t1 ho
  unfold F350_4_D at ho;cases ho;simp only[simprocAttr,R0,b350_4,h_41,eq_false hge];intro ht; subst ht;refine And.intro rfl (Exists.intro _ (Exists.intro _ (And.intro rfl ?_)));simp only[simprocAttr,R0,h_41,eq_false hge]
def I350_3(a0:GComplex)(a1:GContraction)(a2:List (List (List Int)))(x4:T2 Int Bool)(o4_1:List (List (List Int)))(q5_0_1:Int)(v12_1:Int)(x12:Int)(l15:List Int)(o7_2:List (List Int))(v14_2:Int)(u8 u9 k10 u18:Nat)(v17_3:Int)(s:(List Int)×(List Int))(e:Env)(h:Heap):Prop:=
 match s with
 |(o8_3,v15_3)=>
  ∃u38 k39:Nat,h=⟨[(0,none),(0,none),(2,some [V.int .i64 0,V.nils,V.nils]),((appU 1 u8 (k10+1)),some (l15.map Enc.enc)),(u9,some (o4_1.map Enc.enc)),(5,some [V.int .i64 q5_0_1,V.sl 3 (appU 1 u8 (k10+1)) 0 l15.length 1,V.sl 4 u9 0 o4_1.length 1]),(k10,some [V.int .i64 x12]),(u18,some (o7_2.map Enc.enc)),(u38,some (o8_3.map Enc.enc))],k39⟩∧e.length=149∧e.at 2=V.isl (a2.map Enc.enc)∧e.at 3=V.iptr [V.int .i64 a0.Prime,V.isl (a0.Dims.map Enc.enc),V.isl (a0.Maps.map Enc.enc)]∧e.at 4=V.iptr [V.isl (a1.Down.map Enc.enc),V.isl (a1.Up.map Enc.enc),V.isl (a1.Back.map Enc.enc)]∧e.at 6=V.ptr 2 2 0∧e.at 9=V.int .i64 x4.a∧e.at 11=V.ptr 5 5 0∧e.at 12=V.int .i64 v12_1∧e.at 13=V.sl 7 u18 0 o7_2.length 1∧e.at 14=V.int .i64 v14_2∧e.at 15=V.isl (v15_3.map Enc.enc)∧e.at 16=V.sl 8 u38 0 o8_3.length 1∧e.at 17=V.int .i64 v17_3
def P350_3(a0:GComplex)(a1:GContraction)(a2:List (List (List Int)))(x4:T2 Int Bool)(o4_1:List (List (List Int)))(q5_0_1:Int)(v12_1:Int)(x12:Int)(l15:List Int)(o7_2:List (List Int))(v14_2:Int)(u8 u9 k10 u18:Nat)(zo8_3:(List Int))(x:Ex)(e:Env)(h:Heap):Prop:=
 x= .normal∧∃u38 k39:Nat,h=⟨[(0,none),(0,none),(2,some [V.int .i64 0,V.nils,V.nils]),((appU 1 u8 (k10+1)),some (l15.map Enc.enc)),(u9,some (o4_1.map Enc.enc)),(5,some [V.int .i64 q5_0_1,V.sl 3 (appU 1 u8 (k10+1)) 0 l15.length 1,V.sl 4 u9 0 o4_1.length 1]),(k10,some [V.int .i64 x12]),(u18,some (o7_2.map Enc.enc)),(u38,some (zo8_3.map Enc.enc))],k39⟩∧e.length=149∧e.at 2=V.isl (a2.map Enc.enc)∧e.at 3=V.iptr [V.int .i64 a0.Prime,V.isl (a0.Dims.map Enc.enc),V.isl (a0.Maps.map Enc.enc)]∧e.at 4=V.iptr [V.isl (a1.Down.map Enc.enc),V.isl (a1.Up.map Enc.enc),V.isl (a1.Back.map Enc.enc)]∧e.at 6=V.ptr 2 2 0∧e.at 9=V.int .i64 x4.a∧e.at 11=V.ptr 5 5 0∧e.at 12=V.int .i64 v12_1∧e.at 13=V.sl 7 u18 0 o7_2.length 1∧e.at 14=V.int .i64 v14_2∧e.at 16=V.sl 8 u38 0 zo8_3.length 1
theorem l350_3(a0:GComplex)(a1:GContraction)(a2:List (List (List Int)))(x4:T2 Int Bool)(o4_1:List (List (List Int)))(q5_0_1:Int)(v12_1:Int)(x12:Int)(l15:List Int)(o7_2:List (List Int))(v14_2:Int)(u8 u9 k10 u18:Nat){lo:Int}{s:(List Int)×(List Int)}{t:(List Int)}(hF:forR lo x4.a (F350_3_B a0 a1 a2 x4 o4_1 q5_0_1 v12_1 x12 l15 o7_2 v14_2) (F350_3_D a0 a1 a2 x4 o4_1 q5_0_1 v12_1 x12 l15 o7_2 v14_2) s=some t){e:Env}{h:Heap}(hI:I350_3 a0 a1 a2 x4 o4_1 q5_0_1 v12_1 x12 l15 o7_2 v14_2 u8 u9 k10 u18 lo s e h):W A c350_3 e h (P350_3 a0 a1 a2 x4 o4_1 q5_0_1 v12_1 x12 l15 o7_2 v14_2 u8 u9 k10 u18 t):=by
 show W A (.block 4 (.loop false b350_3)) e h _;rw[W_block];refine W_forR hF 9 (by rcases s with⟨_,_⟩; obtain⟨_,_,rfl,_⟩:=hI; rfl) (I350_3 a0 a1 a2 x4 o4_1 q5_0_1 v12_1 x12 l15 o7_2 v14_2 u8 u9 k10 u18) hI ?_ ?_
 ·rintro v17_3 ⟨o8_3,v15_3⟩ e h ⟨u38,k39,rfl,h_37⟩ hlt hw o ho
  unfold F350_3_B at ho;dsimp only at ho;obtain⟨zo8_4,gt59,ho⟩:=bS ho;simp only[simprocAttr,R0,b350_3,h_37,eq_true hlt,hw];refine W.mono (l350_4 a0 a1 a2 x4 o4_1 q5_0_1 v12_1 x12 l15 o7_2 v14_2 v15_3 v17_3 u8 u9 k10 u18 gt59 (Exists.intro _ (Exists.intro _ (And.intro rfl ?_)))) ?_
  ·simp only[simprocAttr,R0,h_37,eq_true hlt,hw]
  rintro _ e _ ⟨rfl,u42,k43,rfl,h_44⟩;obtain⟨x60,gx60,ho⟩:=bS ho;have wx60:=chk_w gx60;obtain⟨x61,gx61,ho⟩:=bS ho;have w62:ans A 357 [(eC a0),(eK a1),V.isl (a2.map Enc.enc),V.int .i64 x60,V.isl (v15_3.map Enc.enc)]=some (V.isl (x61.map Enc.enc)):=s357 a0 a1 a2 x60 v15_3 gx61;cases ho;simp only[simprocAttr,R0,h_44,eq_true hlt,hw,wx60,w62];refine And.intro rfl (Exists.intro _ (Exists.intro _ (And.intro rfl ?_)));simp only[simprocAttr,R0,h_44,eq_true hlt,hw,wx60,w62]
 ·rintro v17_3 ⟨o8_3,v15_3⟩ e h ⟨u38,k39,rfl,h_37⟩ hge t1 ho
  unfold F350_3_D at ho;dsimp only at ho;cases ho;simp only[simprocAttr,R0,b350_3,h_37,eq_false hge];intro ht; subst ht;refine And.intro rfl (Exists.intro _ (Exists.intro _ (And.intro rfl ?_)));simp only[simprocAttr,R0,h_37,eq_false hge]
def I350_2(a0:GComplex)(a1:GContraction)(a2:List (List (List Int)))(x4:T2 Int Bool)(o4_1:List (List (List Int)))(q5_0_1:Int)(v12_1:Int)(x12:Int)(l15:List Int)(u8 u9 k10:Nat)(s:(List (List Int))×Int)(e:Env)(h:Heap):Prop:=
 match s with
 |(o7_2,v14_2)=>
  ∃u18 k19:Nat,h=⟨[(0,none),(0,none),(2,some [V.int .i64 0,V.nils,V.nils]),((appU 1 u8 (k10+1)),some (l15.map Enc.enc)),(u9,some (o4_1.map Enc.enc)),(5,some [V.int .i64 q5_0_1,V.sl 3 (appU 1 u8 (k10+1)) 0 l15.length 1,V.sl 4 u9 0 o4_1.length 1]),(k10,some [V.int .i64 x12]),(u18,some (o7_2.map Enc.enc))],k19⟩∧e.length=149∧e.at 2=V.isl (a2.map Enc.enc)∧e.at 3=V.iptr [V.int .i64 a0.Prime,V.isl (a0.Dims.map Enc.enc),V.isl (a0.Maps.map Enc.enc)]∧e.at 4=V.iptr [V.isl (a1.Down.map Enc.enc),V.isl (a1.Up.map Enc.enc),V.isl (a1.Back.map Enc.enc)]∧e.at 6=V.ptr 2 2 0∧e.at 9=V.int .i64 x4.a∧e.at 11=V.ptr 5 5 0∧e.at 12=V.int .i64 v12_1∧e.at 13=V.sl 7 u18 0 o7_2.length 1∧e.at 14=V.int .i64 v14_2
def P350_2(a0:GComplex)(a1:GContraction)(a2:List (List (List Int)))(x4:T2 Int Bool)(o4_1:List (List (List Int)))(q5_0_1:Int)(v12_1:Int)(x12:Int)(l15:List Int)(u8 u9 k10:Nat)(zo7_2:(List (List Int)))(x:Ex)(e:Env)(h:Heap):Prop:=
 x= .normal∧∃u18 k19:Nat,h=⟨[(0,none),(0,none),(2,some [V.int .i64 0,V.nils,V.nils]),((appU 1 u8 (k10+1)),some (l15.map Enc.enc)),(u9,some (o4_1.map Enc.enc)),(5,some [V.int .i64 q5_0_1,V.sl 3 (appU 1 u8 (k10+1)) 0 l15.length 1,V.sl 4 u9 0 o4_1.length 1]),(k10,some [V.int .i64 x12]),(u18,some (zo7_2.map Enc.enc))],k19⟩∧e.length=149∧e.at 2=V.isl (a2.map Enc.enc)∧e.at 3=V.iptr [V.int .i64 a0.Prime,V.isl (a0.Dims.map Enc.enc),V.isl (a0.Maps.map Enc.enc)]∧e.at 4=V.iptr [V.isl (a1.Down.map Enc.enc),V.isl (a1.Up.map Enc.enc),V.isl (a1.Back.map Enc.enc)]∧e.at 6=V.ptr 2 2 0∧e.at 9=V.int .i64 x4.a∧e.at 11=V.ptr 5 5 0∧e.at 12=V.int .i64 v12_1∧e.at 13=V.sl 7 u18 0 zo7_2.length 1
theorem l350_2(a0:GComplex)(a1:GContraction)(a2:List (List (List Int)))(x4:T2 Int Bool)(o4_1:List (List (List Int)))(q5_0_1:Int)(v12_1:Int)(x12:Int)(l15:List Int)(u8 u9 k10:Nat){s:(List (List Int))×Int}{t:(List (List Int))}(hF:loopW (F350_2_S a0 a1 a2 x4 o4_1 q5_0_1 v12_1 x12 l15) s=some t){e:Env}{h:Heap}(hI:I350_2 a0 a1 a2 x4 o4_1 q5_0_1 v12_1 x12 l15 u8 u9 k10 s e h):W A c350_2 e h (P350_2 a0 a1 a2 x4 o4_1 q5_0_1 v12_1 x12 l15 u8 u9 k10 t):=by
 show W A (.block 2 (.loop false b350_2)) e h _;rw[W_block];refine W_loop hF 8 (by rcases s with⟨_,_⟩; obtain⟨_,_,rfl,_⟩:=hI; rfl) (I350_2 a0 a1 a2 x4 o4_1 q5_0_1 v12_1 x12 l15 u8 u9 k10) hI ?_
 ·rintro⟨o7_2,v14_2⟩ e h ⟨u18,k19,rfl,h_17⟩ o ho
  unfold F350_2_S at ho;dsimp only at ho;obtain⟨x21,gx21,ho⟩:=bS ho;obtain⟨w22a,w22b⟩:=getI_w gx21;have w22c:=getI_lt gx21;have w22d:List.drop (Int.toNat v12_1) (l15.map Enc.enc)=(V.int .i64 x21)::List.drop ((Int.toNat v12_1)+1) (l15.map Enc.enc):=drop_enc w22b;by_cases c23:v14_2 < x21
  ·rw[if_pos c23]at ho
   obtain⟨x24,gx24,ho⟩:=bS ho;have wx24:=chk_w gx24;obtain⟨x25,gx25,ho⟩:=bS ho;obtain⟨w26a,w26b⟩:=getI_w gx25;obtain⟨x27,gx27,ho⟩:=bS ho;have w28:ans A 272 [V.int .i64 x21,V.int .i64 v14_2]=some (V.isl (x27.map Enc.enc)):=s272 x21 v14_2 gx27;obtain⟨x29,gx29,ho⟩:=bS ho;have w30:ans A 284 [(eC a0),(eK a1),V.int .i64 v12_1,V.isl (x27.map Enc.enc)]=some (V.isl (x29.map Enc.enc)):=s284 a0 a1 v12_1 x27 gx29;obtain⟨x31,gx31,ho⟩:=bS ho;have w32:ans A 99 [(eC a0),V.int .i64 x24]=some (V.int .i64 x31):=s99 a0 x24 gx31;obtain⟨x33,gx33,ho⟩:=bS ho;have w34:ans A 80 [V.int .i64 a0.Prime,V.isl (x25.map Enc.enc),V.isl (x29.map Enc.enc),V.int .i64 x31]=some (V.isl (x33.map Enc.enc)):=s80 a0.Prime x25 x29 x31 gx33;obtain⟨l35,gl35,ho⟩:=bS ho;obtain⟨w36a,w36b,w36c,w36d,w36e⟩:=mkL_w gl35;replace w36e:(List.replicate (Int.toNat (x33.length:Int)) [V.int .i64 0]).flatten=List.map Enc.enc l35:=w36e;obtain⟨zo8_3,gt63,ho⟩:=bS ho;simp only[simprocAttr, -Int.reduceNatCast',R0,b350_2,h_17,w22a,w22b,w22c,w22d,eq_true c23,wx24,w26a,w26b,w28,w30,w32,w34,w36a,w36b,w36c,w36e];refine W.mono (l350_3 a0 a1 a2 x4 o4_1 q5_0_1 v12_1 x12 l15 o7_2 v14_2 u8 u9 k10 u18 gt63 (Exists.intro _ (Exists.intro _ (And.intro rfl ?_)))) ?_
   ·simp only[simprocAttr, -Int.reduceNatCast',R0,h_17,w22a,w22b,w22c,w22d,eq_true c23,wx24,w26a,w26b,w28,w30,w32,w34,w36a,w36b,w36c,w36e,w36d]
   rintro _ e _ ⟨rfl,u38,k39,rfl,h_40⟩;obtain⟨x64,gx64,ho⟩:=bS ho;have w65:ans A 286 [(eC a0),(eK a1),V.int .i64 x24,V.isl (zo8_3.map Enc.enc)]=some (V.isl (x64.map Enc.enc)):=s286 a0 a1 x24 zo8_3 gx64;obtain⟨l67,gl67,ho⟩:=bS ho;have w66:=fun a b c d e=> appendV_w (α:=List Int) (n:=o7_2.length) (m:=1) (ds:=[V.isl (x64.map Enc.enc)]) gl67 (by first|rfl|simp) (by first|rfl|simp) rfl a b c d e;have w66l:=app_len gl67;obtain⟨x68,gx68,ho⟩:=bS ho;have wx68:=chk_w gx68;cases ho;simp only[simprocAttr, -Int.reduceNatCast',R0,h_40,eq_true c23,wx24,takes (α:=Int) zo8_3,w65,w66,wx68];refine And.intro rfl (Exists.intro _ (Exists.intro _ (And.intro rfl ?_)));simp only[simprocAttr, -Int.reduceNatCast',R0,h_40,eq_true c23,wx24,takes (α:=Int) zo8_3,w65,w66,wx68]
  ·rw[if_neg c23]at ho
   cases ho;simp only[simprocAttr, -Int.reduceNatCast',R0,b350_2,h_17,w22a,w22b,w22c,w22d,eq_false c23];intro ht; subst ht;simp only[simprocAttr, -Int.reduceNatCast',RR,RB];refine And.intro rfl (Exists.intro _ (Exists.intro _ (And.intro rfl ?_)));simp only[simprocAttr, -Int.reduceNatCast',R0,h_17,w22a,w22b,w22c,w22d,eq_false c23]
def I350_1(a0:GComplex)(a1:GContraction)(a2:List (List (List Int)))(x4:T2 Int Bool)(v12_1:Int)(s:(List Int)×(List (List (List Int)))×Int)(e:Env)(h:Heap):Prop:=
 match s with
 |(o3_1,o4_1,q5_0_1)=>
  ∃u8 u9 k10:Nat,h=⟨[(0,none),(0,none),(2,some [V.int .i64 0,V.nils,V.nils]),(u8,some (o3_1.map Enc.enc)),(u9,some (o4_1.map Enc.enc)),(5,some [V.int .i64 q5_0_1,V.sl 3 u8 0 o3_1.length 1,V.sl 4 u9 0 o4_1.length 1])],k10⟩∧e.length=149∧e.at 2=V.isl (a2.map Enc.enc)∧e.at 3=V.iptr [V.int .i64 a0.Prime,V.isl (a0.Dims.map Enc.enc),V.isl (a0.Maps.map Enc.enc)]∧e.at 4=V.iptr [V.isl (a1.Down.map Enc.enc),V.isl (a1.Up.map Enc.enc),V.isl (a1.Back.map Enc.enc)]∧e.at 6=V.ptr 2 2 0∧e.at 9=V.int .i64 x4.a∧e.at 11=V.ptr 5 5 0∧e.at 12=V.int .i64 v12_1
def P350_1(a0:GComplex)(a1:GContraction)(a2:List (List (List Int)))(x4:T2 Int Bool)(t:(List Int)×(List (List (List Int)))×Int)(x:Ex)(e:Env)(h:Heap):Prop:=
 match t with
 |(zo3_1,zo4_1,zq5_0_1)=>
  x= .normal∧∃u8 u9 k10:Nat,h=⟨[(0,none),(0,none),(2,some [V.int .i64 0,V.nils,V.nils]),(u8,some (zo3_1.map Enc.enc)),(u9,some (zo4_1.map Enc.enc)),(5,some [V.int .i64 zq5_0_1,V.sl 3 u8 0 zo3_1.length 1,V.sl 4 u9 0 zo4_1.length 1])],k10⟩∧e.length=149∧e.at 6=V.ptr 2 2 0∧e.at 11=V.ptr 5 5 0
theorem l350_1(a0:GComplex)(a1:GContraction)(a2:List (List (List Int)))(x4:T2 Int Bool){lo:Int}{s:(List Int)×(List (List (List Int)))×Int}{t:(List Int)×(List (List (List Int)))×Int}(hF:forR lo (a0.Dims.length:Int) (F350_1_B a0 a1 a2 x4) (F350_1_D a0 a1 a2 x4) s=some t){e:Env}{h:Heap}(hI:I350_1 a0 a1 a2 x4 lo s e h):W A c350_1 e h (P350_1 a0 a1 a2 x4 t):=by
 show W A (.block 0 (.loop false b350_1)) e h _;rw[W_block];refine W_forR hF 6 (by rcases s with⟨_,_,_⟩; obtain⟨_,_,_,rfl,_⟩:=hI; rfl) (I350_1 a0 a1 a2 x4) hI ?_ ?_
 ·rintro v12_1 ⟨o3_1,o4_1,q5_0_1⟩ e h ⟨u8,u9,k10,rfl,h_7⟩ hlt hw o ho
  unfold F350_1_B at ho;dsimp only at ho;obtain⟨x12,gx12,ho⟩:=bS ho;have w13:ans A 283 [(eC a0),V.int .i64 v12_1]=some (V.int .i64 x12):=s283 a0 v12_1 gx12;obtain⟨l15,gl15,ho⟩:=bS ho;have w14:=fun a b c d e=> appendV_w (α:=Int) (n:=o3_1.length) (m:=1) (ds:=[V.int .i64 x12]) gl15 (by first|rfl|simp) (by first|rfl|simp) rfl a b c d e;have w14l:=app_len gl15;by_cases c16:v12_1=0
  ·rw[if_pos c16]at ho
   cases ho;simp only[simprocAttr,R0,b350_1,h_7,eq_true hlt,hw,w13,w14,eq_true c16];refine And.intro rfl (Exists.intro _ (Exists.intro _ (Exists.intro _ (And.intro rfl ?_))));simp only[simprocAttr,R0,h_7,eq_true hlt,hw,w13,w14,eq_true c16]
  ·rw[if_neg c16]at ho
   obtain⟨zo7_2,gt69,ho⟩:=bS ho;simp only[simprocAttr,R0,b350_1,h_7,eq_true hlt,hw,w13,w14,eq_false c16];refine W.mono (l350_2 a0 a1 a2 x4 o4_1 q5_0_1 v12_1 x12 l15 u8 u9 k10 gt69 (Exists.intro _ (Exists.intro _ (And.intro rfl ?_)))) ?_
   ·simp only[simprocAttr,R0,h_7,eq_true hlt,hw,w13,w14,eq_false c16]
   rintro _ e _ ⟨rfl,u18,k19,rfl,h_20⟩;obtain⟨l71,gl71,ho⟩:=bS ho;have w70:=fun a b c d e=> appendV_w (α:=List (List Int)) (n:=o4_1.length) (m:=1) (ds:=[V.isl (zo7_2.map Enc.enc)]) gl71 (by first|rfl|simp) (by first|rfl|simp) rfl a b c d e;have w70l:=app_len gl71;cases ho;simp only[simprocAttr,R0,h_20,eq_true hlt,hw,eq_false c16,takes (α:=List Int) zo7_2,w70];refine And.intro rfl (Exists.intro _ (Exists.intro _ (Exists.intro _ (And.intro rfl ?_))));simp only[simprocAttr,R0,h_20,eq_true hlt,hw,eq_false c16,takes (α:=List Int) zo7_2,w70]
 ·rintro v12_1 ⟨o3_1,o4_1,q5_0_1⟩ e h ⟨u8,u9,k10,rfl,h_7⟩ hge t1 ho
  unfold F350_1_D at ho;dsimp only at ho;cases ho;simp only[simprocAttr,R0,b350_1,h_7,eq_false hge];intro ht; subst ht;refine And.intro rfl (Exists.intro _ (Exists.intro _ (Exists.intro _ (And.intro rfl ?_))));simp only[simprocAttr,R0,h_7,eq_false hge]
theorem s350(a0:GComplex)(a1:GContraction)(a2:List (List (List Int))){r:T2 GComplex Int}(hF:F350 a0 a1 a2=some r):ans A 350 [(eC a0),(eK a1),V.isl (a2.map Enc.enc)]=some (EncR.enc r):=by
 refine ans_of (f:=p350) rfl rfl rfl fun e hl he=>?_;have h0_0:e.at 0=(eC a0):=he 0 _ rfl;have h1_0:e.at 1=(eK a1):=he 1 _ rfl;have h2_0:e.at 2=V.isl (a2.map Enc.enc):=he 2 _ rfl;have hl_0:e.length=149:=hl;clear he hl;have h_0:=And.intro hl_0 (And.intro h0_0 (And.intro h1_0 h2_0));show W A b350 e ⟨[],0⟩ _;unfold F350 at hF;obtain⟨x1,gx1,hF⟩:=bS hF;have w2:ans A 351 [(eC a0),(eK a1),V.isl (a2.map Enc.enc)]=some (V.int .i64 x1):=s351 a0 a1 a2 gx1;by_cases c3:x1=0
 ·rw[if_pos c3]at hF
  obtain⟨x4,gx4,hF⟩:=bS hF;have w5:ans A 352 [(eC a0),(eK a1),V.isl (a2.map Enc.enc)]=some (V.tup [V.int .i64 x4.a,V.bool x4.b]):=s352 a0 a1 a2 gx4;by_cases c6:x4.b=true
  ·rw[if_pos c6]at hF
   obtain⟨⟨zo3_1,zo4_1,zq5_0_1⟩,gt72,hF⟩:=bS hF;dsimp only at hF;simp only[simprocAttr,R0,b350,h_0,w2,eq_true c3,w5,c6];refine W.mono (l350_1 a0 a1 a2 x4 gt72 (Exists.intro _ (Exists.intro _ (Exists.intro _ (And.intro rfl ?_))))) ?_
   ·simp only[simprocAttr,R0,h_0,w2,eq_true c3,w5,c6]
   rintro _ e _ ⟨rfl,u8,u9,k10,rfl,h_11⟩;cases hF;simp only[simprocAttr,R0,h_11,eq_true c3];exact fin_ret (by simp only[simprocAttr,R0,fn_out,p350,Rs.ev,take_len_self,h_11,eq_true c3,frzs (α:=Int) zo3_1,takes (α:=Int) zo3_1,frzs (α:=List (List Int)) zo4_1,takes (α:=List (List Int)) zo4_1])
  ·rw[if_neg c6]at hF
   cases hF;simp only[simprocAttr,R0,b350,h_0,w2,eq_true c3,w5,Bool.eq_false_iff.2 c6];exact fin_ret (by simp only[simprocAttr,R0,fn_out,p350,Rs.ev,take_len_self,h_0,w2,eq_true c3,w5,Bool.eq_false_iff.2 c6])
 ·rw[if_neg c3]at hF
  cases hF;simp only[simprocAttr,R0,b350,h_0,w2,eq_false c3];exact fin_ret (by simp only[simprocAttr,R0,fn_out,p350,Rs.ev,take_len_self,h_0,w2,eq_false c3])
def L363(a0:GComplex)(a1:GContraction)(a2:List (List (List Int))):Prop:=
 (∃l0,F10 a0 1048576=some l0∧l0 < 0)∨
 (∃l0 l1,F10 a0 1048576=some l0∧¬l0 < 0∧F224 a1 l0=some l1∧l1 < 0)∨
 (∃l0 l1 l2,F10 a0 1048576=some l0∧¬l0 < 0∧F224 a1 l0=some l1∧¬l1 < 0∧F11 a2 l1=some l2∧l2 < 0)∨
 (∃ (l0:Int) (l1:Int) (l2:Int) (s0:GComplex) (s1:GContraction) (s2:List (List (List Int))) (w:GComplex) (cd:Int) (m0:GComplex×Int) (m1:GContraction×Int) (m2:List (List (List Int))×Int) (mg:GComplex×Int),F10 a0 1048576=some l0∧¬l0 < 0∧F224 a1 l0=some l1∧¬l1 < 0∧F11 a2 l1=some l2∧¬l2 < 0∧F12 a0=some s0∧F225 a1=some s1∧F13 a2=some s2∧F350 s0 s1 s2=some ⟨w,cd⟩∧F155 s0 s1 s2=some ⟨w,cd⟩∧F16 w w=some true∧F16 s0 s0=some true∧F228 s1 s1=some true∧F17 s2 s2=some true∧FM20 s0 1=some m0∧FM327 s1 m0.2=some m1∧FM21 s2 m1.2=some m2∧¬m2.2 < 0∧FM20 w 1=some mg∧F22 mg.1 1=some mg.2∧¬mg.2 < 0)
theorem s363(a0:GComplex)(a1:GContraction)(a2:List (List (List Int)))(hF:L363 a0 a1 a2):ans A 363 [(eC a0),(eK a1),V.isl (a2.map Enc.enc)]=some (V.bool true):=by
 refine ans_of (f:=p363) rfl rfl rfl fun e hl he=>?_;have h0_0:e.at 0=(eC a0):=he 0 _ rfl;have h1_0:e.at 1=(eK a1):=he 1 _ rfl;have h2_0:e.at 2=V.isl (a2.map Enc.enc):=he 2 _ rfl;have hl_0:e.length=142:=hl;clear he hl;show W A b363 e ⟨[],0⟩ _;rcases hF with⟨l0,g0,c0⟩|⟨l0,l1,g0,c0,g1,c1⟩|⟨l0,l1,l2,g0,c0,g1,c1,g2,c2⟩|⟨l0,l1,l2,s0,s1,s2,w,cd,m0,m1,m2,mg,g0,c0,g1,c1,g2,c2,t0,t1,t2,gs,gi,ge,q0,q1,q2,k0,k1,k2,ck,gm,gh,cg⟩
 ·have z0:=s10 a0 _ g0
  simp only[simprocAttr, -Int.reduceNatCast',R0,b363,hl_0,h0_0,h1_0,h2_0,z0,eq_true c0];exact fin_ret (by simp only[simprocAttr, -Int.reduceNatCast',R0,fn_out,p363,Rs.ev,take_len_self,hl_0,z0,eq_true c0])
 ·have z0:=s10 a0 _ g0; have z1:=s224 a1 _ g1
  simp only[simprocAttr, -Int.reduceNatCast',R0,b363,hl_0,h0_0,h1_0,h2_0,z0,eq_false c0,z1,eq_true c1];exact fin_ret (by simp only[simprocAttr, -Int.reduceNatCast',R0,fn_out,p363,Rs.ev,take_len_self,hl_0,z0,eq_false c0,z1,eq_true c1])
 ·have z0:=s10 a0 _ g0; have z1:=s224 a1 _ g1; have z2:=s11 a2 _ g2
  simp only[simprocAttr, -Int.reduceNatCast',R0,b363,hl_0,h0_0,h1_0,h2_0,z0,eq_false c0,z1,eq_false c1,z2,eq_true c2];exact fin_ret (by simp only[simprocAttr, -Int.reduceNatCast',R0,fn_out,p363,Rs.ev,take_len_self,hl_0,z0,eq_false c0,z1,eq_false c1,z2,eq_true c2])
 ·have z0:=s10 a0 _ g0
  have z1:=s224 a1 _ g1;have z2:=s11 a2 _ g2;have u0:ans A 12 [(eC a0)]=some ((eC s0)):=s12 a0 t0;have x0:tans A 12 [1,1,1] [(eC a0)]=some ((eC s0)):=x12 a0 t0;have u1:ans A 225 [(eK a1)]=some ((eK s1)):=s225 a1 t1;have x1:tans A 225 [1,1,1] [(eK a1)]=some ((eK s1)):=x225 a1 t1;have u2:ans A 13 [V.isl (a2.map Enc.enc)]=some (V.isl (s2.map Enc.enc)):=s13 a2 t2;have x2:tans A 13 [1,1,1] [V.isl (a2.map Enc.enc)]=some (V.isl (s2.map Enc.enc)):=x13 a2 t2;have us:ans A 350 [(eC s0),(eK s1),V.isl (s2.map Enc.enc)]=some (V.tup [(eC w),V.int .i64 cd]):=s350 s0 s1 s2 gs;have ui:ans A 155 [(eC s0),(eK s1),V.isl (s2.map Enc.enc)]=some (V.tup [(eC w),V.int .i64 cd]):=s155 s0 s1 s2 gi;have xi:tans A 155 [1,1,1] [(eC s0),(eK s1),V.isl (s2.map Enc.enc)]=some (V.tup [(eC w),V.int .i64 cd]):=x155 s0 s1 s2 gi;have ue:ans A 16 [(eC w),(eC w)]=some (V.bool true):=s16 w w ge;have y0:ans A 16 [(eC s0),(eC s0)]=some (V.bool true):=s16 s0 s0 q0;have y1:ans A 228 [(eK s1),(eK s1)]=some (V.bool true):=s228 s1 s1 q1;have y2:ans A 17 [V.isl (s2.map Enc.enc),V.isl (s2.map Enc.enc)]=some (V.bool true):=s17 s2 s2 q2;have bw:bare 16 [1,1,1] (V.tup [(eC w),V.int .i64 cd])=true:=bare_tup (l:=[⟨w⟩,⟨cd⟩]) (fits_pair rfl (by decide));obtain⟨v0,⟨E_1,c_2⟩,K_3,t_5,r_4,b_6,le_7,o_8⟩:=thawD (α:=GComplex) (by decide) s0 ⟨[(0,none),(0,none),(2,some [V.int .i64 w.Prime,V.isl (w.Dims.map Enc.enc),V.isl (w.Maps.map Enc.enc)])],3⟩;obtain⟨d0_1,d0_2,rfl, -⟩:=sh_GComplex r_4;simp only[le1,List.length_cons,List.length_nil,Nat.zero_add,Nat.reduceAdd]at b_6 le_7 o_8;have t_5':thaw 16 [1,1,1] ((eC s0)) ⟨[(0,none),(0,none),(2,some [V.int .i64 w.Prime,V.isl (w.Dims.map Enc.enc),V.isl (w.Maps.map Enc.enc)])],3⟩=some (V.agg [V.int .i64 s0.Prime,d0_1,d0_2],⟨E_1,c_2⟩):=t_5;have f_9:E_1[2]? =some (2,some [V.int .i64 w.Prime,V.isl (w.Dims.map Enc.enc),V.isl (w.Maps.map Enc.enc)]):=o_8 2 (by decide);have f_10:(E_1++[(c_2,some [V.int .i64 s0.Prime,d0_1,d0_2])])[2]? =some (2,some [V.int .i64 w.Prime,V.isl (w.Dims.map Enc.enc),V.isl (w.Maps.map Enc.enc)]):=(List.getElem?_append_left (List.getElem?_eq_some_iff.1 f_9).1).trans f_9;have f_11:(E_1++[(c_2,some [V.int .i64 s0.Prime,d0_1,d0_2])])[E_1.length]? =some (c_2,some [V.int .i64 s0.Prime,d0_1,d0_2]):=get_last _ _;have r_12:=Deep.frame (h':=⟨E_1++[(c_2,some [V.int .i64 s0.Prime,d0_1,d0_2])],c_2+1⟩) r_4 fun k q=>(List.getElem?_append_left (Deep.bd r_4 q):(E_1++[(c_2,some [V.int .i64 s0.Prime,d0_1,d0_2])])[k]? =_);obtain⟨v1,⟨E_13,c_14⟩,K_15,t_17,r_16,b_18,le_19,o_20⟩:=thawD (α:=GContraction) (by decide) s1 ⟨E_1++[(c_2,some [V.int .i64 s0.Prime,d0_1,d0_2])],c_2+1⟩;obtain⟨d1_0,d1_1,d1_2,rfl, -⟩:=sh_GContraction r_16;simp only[le1,List.length_cons,List.length_nil,Nat.zero_add,Nat.reduceAdd]at b_18 le_19 o_20;have t_17':thaw 16 [1,1,1] ((eK s1)) ⟨E_1++[(c_2,some [V.int .i64 s0.Prime,d0_1,d0_2])],c_2+1⟩=some (V.agg [d1_0,d1_1,d1_2],⟨E_13,c_14⟩):=t_17;have f_21:E_13[2]? =some (2,some [V.int .i64 w.Prime,V.isl (w.Dims.map Enc.enc),V.isl (w.Maps.map Enc.enc)]):=(o_20 2 (by have:=(List.getElem?_eq_some_iff.1 f_10).1;(try simp only[le1]at this); omega)).trans f_10;have f_22:E_13[E_1.length]? =some (c_2,some [V.int .i64 s0.Prime,d0_1,d0_2]):=(o_20 E_1.length (by have:=(List.getElem?_eq_some_iff.1 f_11).1;(try simp only[le1]at this); omega)).trans f_11;have r_23:=Deep.frame (h':=⟨E_13,c_14⟩) r_12 fun k q=> o_20 k (by have:=Deep.bd r_12 q;(try simp only[le1]at this); omega);have f_24:(E_13++[(c_14,some [d1_0,d1_1,d1_2])])[2]? =some (2,some [V.int .i64 w.Prime,V.isl (w.Dims.map Enc.enc),V.isl (w.Maps.map Enc.enc)]):=(List.getElem?_append_left (List.getElem?_eq_some_iff.1 f_21).1).trans f_21;have f_25:(E_13++[(c_14,some [d1_0,d1_1,d1_2])])[E_1.length]? =some (c_2,some [V.int .i64 s0.Prime,d0_1,d0_2]):=(List.getElem?_append_left (List.getElem?_eq_some_iff.1 f_22).1).trans f_22;have f_26:(E_13++[(c_14,some [d1_0,d1_1,d1_2])])[E_13.length]? =some (c_14,some [d1_0,d1_1,d1_2]):=get_last _ _;have r_27:=Deep.frame (h':=⟨E_13++[(c_14,some [d1_0,d1_1,d1_2])],c_14+1⟩) r_23 fun k q=>(List.getElem?_append_left (Deep.bd r_23 q):(E_13++[(c_14,some [d1_0,d1_1,d1_2])])[k]? =_)
  have r_28:=Deep.frame (h':=⟨E_13++[(c_14,some [d1_0,d1_1,d1_2])],c_14+1⟩) r_16 fun k q=>(List.getElem?_append_left (Deep.bd r_16 q):(E_13++[(c_14,some [d1_0,d1_1,d1_2])])[k]? =_);obtain⟨v2,⟨E_29,c_30⟩,K_31,t_33,r_32,b_34,le_35,o_36⟩:=thawD (α:=List (List (List Int))) (by decide) s2 ⟨E_13++[(c_14,some [d1_0,d1_1,d1_2])],c_14+1⟩;obtain⟨one2,one2_t⟩:=rep_one r_32;simp only[le1,List.length_cons,List.length_nil,Nat.zero_add,Nat.reduceAdd]at b_34 le_35 o_36;have t_33':thaw 16 [1,1,1] (V.isl (s2.map Enc.enc)) ⟨E_13++[(c_14,some [d1_0,d1_1,d1_2])],c_14+1⟩=some (v2,⟨E_29,c_30⟩):=t_33;have f_37:E_29[2]? =some (2,some [V.int .i64 w.Prime,V.isl (w.Dims.map Enc.enc),V.isl (w.Maps.map Enc.enc)]):=(o_36 2 (by have:=(List.getElem?_eq_some_iff.1 f_24).1;(try simp only[le1]at this); omega)).trans f_24;have f_38:E_29[E_1.length]? =some (c_2,some [V.int .i64 s0.Prime,d0_1,d0_2]):=(o_36 E_1.length (by have:=(List.getElem?_eq_some_iff.1 f_25).1;(try simp only[le1]at this); omega)).trans f_25;have f_39:E_29[E_13.length]? =some (c_14,some [d1_0,d1_1,d1_2]):=(o_36 E_13.length (by have:=(List.getElem?_eq_some_iff.1 f_26).1;(try simp only[le1]at this); omega)).trans f_26;have r_40:=Deep.frame (h':=⟨E_29,c_30⟩) r_27 fun k q=> o_36 k (by have:=Deep.bd r_27 q;(try simp only[le1]at this); omega);have r_41:=Deep.frame (h':=⟨E_29,c_30⟩) r_28 fun k q=> o_36 k (by have:=Deep.bd r_28 q;(try simp only[le1]at this); omega);obtain⟨z_42_e0,z_42_1,z_42_2⟩:=fz_GComplex r_40;obtain⟨z_43_0,z_43_1,z_43_2⟩:=fz_GContraction r_41;have z_44:=Deep.fz r_32 9;have z_44':frz ⟨E_29,c_30⟩ 16 v2=some (V.isl (s2.map Enc.enc)):=z_44;obtain⟨vg,⟨E_45,c_46⟩,K_47,t_49,r_48,b_50,le_51,o_52⟩:=thawP (α:=GComplex) (s:=1) (ss:=[1,1]) (by decide) w cd ⟨E_29,c_30⟩;obtain⟨dg_1,dg_2,rfl, -⟩:=sh_GComplex r_48;simp only[le1,List.length_cons,List.length_nil,Nat.zero_add,Nat.reduceAdd]at b_50 le_51 o_52;have t_49':thaw 16 [1,1,1] (V.tup [(eC w),V.int .i64 cd]) ⟨E_29,c_30⟩=some (V.tup [V.agg [V.int .i64 w.Prime,dg_1,dg_2],V.int .i64 cd],⟨E_45,c_46⟩):=t_49;have f_53:E_45[2]? =some (2,some [V.int .i64 w.Prime,V.isl (w.Dims.map Enc.enc),V.isl (w.Maps.map Enc.enc)]):=(o_52 2 (by have:=(List.getElem?_eq_some_iff.1 f_37).1;(try simp only[le1]at this); omega)).trans f_37;have f_54:E_45[E_1.length]? =some (c_2,some [V.int .i64 s0.Prime,d0_1,d0_2]):=(o_52 E_1.length (by have:=(List.getElem?_eq_some_iff.1 f_38).1;(try simp only[le1]at this); omega)).trans f_38;have f_55:E_45[E_13.length]? =some (c_14,some [d1_0,d1_1,d1_2]):=(o_52 E_13.length (by have:=(List.getElem?_eq_some_iff.1 f_39).1;(try simp only[le1]at this); omega)).trans f_39;have r_56:=Deep.frame (h':=⟨E_45,c_46⟩) r_40 fun k q=> o_52 k (by have:=Deep.bd r_40 q;(try simp only[le1]at this); omega);have r_57:=Deep.frame (h':=⟨E_45,c_46⟩) r_41 fun k q=> o_52 k (by have:=Deep.bd r_41 q;(try simp only[le1]at this); omega);have r_58:=Deep.frame (h':=⟨E_45,c_46⟩) r_32 fun k q=> o_52 k (by have:=Deep.bd r_32 q;(try simp only[le1]at this); omega);have f_59:(E_45++[(c_46,some [V.int .i64 w.Prime,dg_1,dg_2])])[2]? =some (2,some [V.int .i64 w.Prime,V.isl (w.Dims.map Enc.enc),V.isl (w.Maps.map Enc.enc)]):=(List.getElem?_append_left (List.getElem?_eq_some_iff.1 f_53).1).trans f_53;have f_60:(E_45++[(c_46,some [V.int .i64 w.Prime,dg_1,dg_2])])[E_1.length]? =some (c_2,some [V.int .i64 s0.Prime,d0_1,d0_2]):=(List.getElem?_append_left (List.getElem?_eq_some_iff.1 f_54).1).trans f_54;have f_61:(E_45++[(c_46,some [V.int .i64 w.Prime,dg_1,dg_2])])[E_13.length]? =some (c_14,some [d1_0,d1_1,d1_2]):=(List.getElem?_append_left (List.getElem?_eq_some_iff.1 f_55).1).trans f_55;have f_62:(E_45++[(c_46,some [V.int .i64 w.Prime,dg_1,dg_2])])[E_45.length]? =some (c_46,some [V.int .i64 w.Prime,dg_1,dg_2]):=get_last _ _;have r_63:=Deep.frame (h':=⟨E_45++[(c_46,some [V.int .i64 w.Prime,dg_1,dg_2])],c_46+1⟩) r_56 fun k q=>(List.getElem?_append_left (Deep.bd r_56 q):(E_45++[(c_46,some [V.int .i64 w.Prime,dg_1,dg_2])])[k]? =_);have r_64:=Deep.frame (h':=⟨E_45++[(c_46,some [V.int .i64 w.Prime,dg_1,dg_2])],c_46+1⟩) r_57 fun k q=>(List.getElem?_append_left (Deep.bd r_57 q):(E_45++[(c_46,some [V.int .i64 w.Prime,dg_1,dg_2])])[k]? =_)
  have r_65:=Deep.frame (h':=⟨E_45++[(c_46,some [V.int .i64 w.Prime,dg_1,dg_2])],c_46+1⟩) r_58 fun k q=>(List.getElem?_append_left (Deep.bd r_58 q):(E_45++[(c_46,some [V.int .i64 w.Prime,dg_1,dg_2])])[k]? =_);have r_66:=Deep.frame (h':=⟨E_45++[(c_46,some [V.int .i64 w.Prime,dg_1,dg_2])],c_46+1⟩) r_48 fun k q=>(List.getElem?_append_left (Deep.bd r_48 q):(E_45++[(c_46,some [V.int .i64 w.Prime,dg_1,dg_2])])[k]? =_);obtain⟨z_67_e0,z_67_1,z_67_2⟩:=fz_GComplex r_66;obtain⟨z_68_e0,z_68_1,z_68_2⟩:=fz_GComplex r_63;obtain⟨z_69_0,z_69_1,z_69_2⟩:=fz_GContraction r_64;have z_70:=Deep.fz r_65 9;have z_70':frz ⟨E_45++[(c_46,some [V.int .i64 w.Prime,dg_1,dg_2])],c_46+1⟩ 16 v2=some (V.isl (s2.map Enc.enc)):=z_70;obtain⟨⟨E_71,c_72⟩,w_73,r_74,o_76,le_75⟩:=dm20 k0 _ r_63
  try simp only[le1]at o_76 le_75
  have f_77:E_71[2]? =some (2,some [V.int .i64 w.Prime,V.isl (w.Dims.map Enc.enc),V.isl (w.Maps.map Enc.enc)]):=(o_76 2 (by have:=(List.getElem?_eq_some_iff.1 f_59).1;(try simp only[le1]at this); omega) (fun p=> by have h1:=b_6 _ p; omega)).trans f_59;have f_78:E_71[E_1.length]? =some (c_2,some [V.int .i64 s0.Prime,d0_1,d0_2]):=(o_76 E_1.length (by have:=(List.getElem?_eq_some_iff.1 f_60).1;(try simp only[le1]at this); omega) (fun p=> by have h1:=b_6 _ p; omega)).trans f_60;have f_79:E_71[E_13.length]? =some (c_14,some [d1_0,d1_1,d1_2]):=(o_76 E_13.length (by have:=(List.getElem?_eq_some_iff.1 f_61).1;(try simp only[le1]at this); omega) (fun p=> by have h1:=b_6 _ p; omega)).trans f_61;have f_80:E_71[E_45.length]? =some (c_46,some [V.int .i64 w.Prime,dg_1,dg_2]):=(o_76 E_45.length (by have:=(List.getElem?_eq_some_iff.1 f_62).1;(try simp only[le1]at this); omega) (fun p=> by have h1:=b_6 _ p; omega)).trans f_62;have r_81:=Deep.frame (h':=⟨E_71,c_72⟩) r_64 fun k q=> o_76 k (by have:=Deep.bd r_64 q;(try simp only[le1]at this); omega) (fun p=> by have h1:=b_6 k p; have h2:=b_18 k q; omega);have r_82:=Deep.frame (h':=⟨E_71,c_72⟩) r_65 fun k q=> o_76 k (by have:=Deep.bd r_65 q;(try simp only[le1]at this); omega) (fun p=> by have h1:=b_6 k p; have h2:=b_34 k q; omega);have r_83:=Deep.frame (h':=⟨E_71,c_72⟩) r_66 fun k q=> o_76 k (by have:=Deep.bd r_66 q;(try simp only[le1]at this); omega) (fun p=> by have h1:=b_6 k p; have h2:=b_50 k q; omega);obtain⟨⟨E_84,c_85⟩,w_86,r_87,o_89,le_88⟩:=dm327 k1 _ r_81
  try simp only[le1]at o_89 le_88
  have f_90:E_84[2]? =some (2,some [V.int .i64 w.Prime,V.isl (w.Dims.map Enc.enc),V.isl (w.Maps.map Enc.enc)]):=(o_89 2 (by have:=(List.getElem?_eq_some_iff.1 f_77).1;(try simp only[le1]at this); omega) (fun p=> by have h1:=b_18 _ p; omega)).trans f_77;have f_91:E_84[E_1.length]? =some (c_2,some [V.int .i64 s0.Prime,d0_1,d0_2]):=(o_89 E_1.length (by have:=(List.getElem?_eq_some_iff.1 f_78).1;(try simp only[le1]at this); omega) (fun p=> by have h1:=b_18 _ p; omega)).trans f_78;have f_92:E_84[E_13.length]? =some (c_14,some [d1_0,d1_1,d1_2]):=(o_89 E_13.length (by have:=(List.getElem?_eq_some_iff.1 f_79).1;(try simp only[le1]at this); omega) (fun p=> by have h1:=b_18 _ p; omega)).trans f_79;have f_93:E_84[E_45.length]? =some (c_46,some [V.int .i64 w.Prime,dg_1,dg_2]):=(o_89 E_45.length (by have:=(List.getElem?_eq_some_iff.1 f_80).1;(try simp only[le1]at this); omega) (fun p=> by have h1:=b_18 _ p; omega)).trans f_80;have r_94:=Deep.frame (h':=⟨E_84,c_85⟩) r_74 fun k q=> o_89 k (by have:=Deep.bd r_74 q;(try simp only[le1]at this); omega) (fun p=> by have h1:=b_18 k p; have h2:=b_6 k q; omega);have r_95:=Deep.frame (h':=⟨E_84,c_85⟩) r_82 fun k q=> o_89 k (by have:=Deep.bd r_82 q;(try simp only[le1]at this); omega) (fun p=> by have h1:=b_18 k p; have h2:=b_34 k q; omega);have r_96:=Deep.frame (h':=⟨E_84,c_85⟩) r_83 fun k q=> o_89 k (by have:=Deep.bd r_83 q;(try simp only[le1]at this); omega) (fun p=> by have h1:=b_18 k p; have h2:=b_50 k q; omega);obtain⟨⟨E_97,c_98⟩,w_99,r_100,o_102,le_101⟩:=dm21 k2 _ r_95
  try simp only[le1]at o_102 le_101
  have f_103:E_97[2]? =some (2,some [V.int .i64 w.Prime,V.isl (w.Dims.map Enc.enc),V.isl (w.Maps.map Enc.enc)]):=(o_102 2 (by have:=(List.getElem?_eq_some_iff.1 f_90).1;(try simp only[le1]at this); omega) (fun p=> by have h1:=b_34 _ p; omega)).trans f_90;have f_104:E_97[E_1.length]? =some (c_2,some [V.int .i64 s0.Prime,d0_1,d0_2]):=(o_102 E_1.length (by have:=(List.getElem?_eq_some_iff.1 f_91).1;(try simp only[le1]at this); omega) (fun p=> by have h1:=b_34 _ p; omega)).trans f_91;have f_105:E_97[E_13.length]? =some (c_14,some [d1_0,d1_1,d1_2]):=(o_102 E_13.length (by have:=(List.getElem?_eq_some_iff.1 f_92).1;(try simp only[le1]at this); omega) (fun p=> by have h1:=b_34 _ p; omega)).trans f_92;have f_106:E_97[E_45.length]? =some (c_46,some [V.int .i64 w.Prime,dg_1,dg_2]):=(o_102 E_45.length (by have:=(List.getElem?_eq_some_iff.1 f_93).1;(try simp only[le1]at this); omega) (fun p=> by have h1:=b_34 _ p; omega)).trans f_93;have r_107:=Deep.frame (h':=⟨E_97,c_98⟩) r_94 fun k q=> o_102 k (by have:=Deep.bd r_94 q;(try simp only[le1]at this); omega) (fun p=> by have h1:=b_34 k p; have h2:=b_6 k q; omega);have r_108:=Deep.frame (h':=⟨E_97,c_98⟩) r_87 fun k q=> o_102 k (by have:=Deep.bd r_87 q;(try simp only[le1]at this); omega) (fun p=> by have h1:=b_34 k p; have h2:=b_18 k q; omega);have r_109:=Deep.frame (h':=⟨E_97,c_98⟩) r_96 fun k q=> o_102 k (by have:=Deep.bd r_96 q;(try simp only[le1]at this); omega) (fun p=> by have h1:=b_34 k p; have h2:=b_50 k q; omega);obtain⟨z_110_e0,z_110_1,z_110_2⟩:=fz_GComplex r_109;obtain⟨⟨E_111,c_112⟩,w_113,r_114,o_116,le_115⟩:=dm20 gm _ r_109
  try simp only[le1]at o_116 le_115
  have f_117:E_111[2]? =some (2,some [V.int .i64 w.Prime,V.isl (w.Dims.map Enc.enc),V.isl (w.Maps.map Enc.enc)]):=(o_116 2 (by have:=(List.getElem?_eq_some_iff.1 f_103).1;(try simp only[le1]at this); omega) (fun p=> by have h1:=b_50 _ p; omega)).trans f_103;have f_118:E_111[E_1.length]? =some (c_2,some [V.int .i64 s0.Prime,d0_1,d0_2]):=(o_116 E_1.length (by have:=(List.getElem?_eq_some_iff.1 f_104).1;(try simp only[le1]at this); omega) (fun p=> by have h1:=b_50 _ p; omega)).trans f_104;have f_119:E_111[E_13.length]? =some (c_14,some [d1_0,d1_1,d1_2]):=(o_116 E_13.length (by have:=(List.getElem?_eq_some_iff.1 f_105).1;(try simp only[le1]at this); omega) (fun p=> by have h1:=b_50 _ p; omega)).trans f_105;have f_120:E_111[E_45.length]? =some (c_46,some [V.int .i64 w.Prime,dg_1,dg_2]):=(o_116 E_45.length (by have:=(List.getElem?_eq_some_iff.1 f_106).1;(try simp only[le1]at this); omega) (fun p=> by have h1:=b_50 _ p; omega)).trans f_106;have r_121:=Deep.frame (h':=⟨E_111,c_112⟩) r_107 fun k q=> o_116 k (by have:=Deep.bd r_107 q;(try simp only[le1]at this); omega) (fun p=> by have h1:=b_50 k p; have h2:=b_6 k q; omega);have r_122:=Deep.frame (h':=⟨E_111,c_112⟩) r_108 fun k q=> o_116 k (by have:=Deep.bd r_108 q;(try simp only[le1]at this); omega) (fun p=> by have h1:=b_50 k p; have h2:=b_18 k q; omega);have r_123:=Deep.frame (h':=⟨E_111,c_112⟩) r_100 fun k q=> o_116 k (by have:=Deep.bd r_100 q;(try simp only[le1]at this); omega) (fun p=> by have h1:=b_50 k p; have h2:=b_34 k q; omega);obtain⟨z_124_e0,z_124_1,z_124_2⟩:=fz_GComplex r_114;have uh:ans A 22 [V.agg [V.int .i64 w.Prime,V.isl (List.map Enc.enc mg.1.Dims),V.isl (List.map Enc.enc mg.1.Maps)],V.int .i64 1]=some (V.int .i64 mg.2):=by
   rw[←z_124_e0]; exact s22 mg.1 1 gh
  have f_125:(E_111++[(c_112,some [V.int .i64 w.Prime,V.isl (w.Dims.map Enc.enc),V.isl (w.Maps.map Enc.enc)])])[2]? =some (2,some [V.int .i64 w.Prime,V.isl (w.Dims.map Enc.enc),V.isl (w.Maps.map Enc.enc)]):=(List.getElem?_append_left (List.getElem?_eq_some_iff.1 f_117).1).trans f_117;have f_126:(E_111++[(c_112,some [V.int .i64 w.Prime,V.isl (w.Dims.map Enc.enc),V.isl (w.Maps.map Enc.enc)])])[E_1.length]? =some (c_2,some [V.int .i64 s0.Prime,d0_1,d0_2]):=(List.getElem?_append_left (List.getElem?_eq_some_iff.1 f_118).1).trans f_118;have f_127:(E_111++[(c_112,some [V.int .i64 w.Prime,V.isl (w.Dims.map Enc.enc),V.isl (w.Maps.map Enc.enc)])])[E_13.length]? =some (c_14,some [d1_0,d1_1,d1_2]):=(List.getElem?_append_left (List.getElem?_eq_some_iff.1 f_119).1).trans f_119;have f_128:(E_111++[(c_112,some [V.int .i64 w.Prime,V.isl (w.Dims.map Enc.enc),V.isl (w.Maps.map Enc.enc)])])[E_45.length]? =some (c_46,some [V.int .i64 w.Prime,dg_1,dg_2]):=(List.getElem?_append_left (List.getElem?_eq_some_iff.1 f_120).1).trans f_120;have f_129:(E_111++[(c_112,some [V.int .i64 w.Prime,V.isl (w.Dims.map Enc.enc),V.isl (w.Maps.map Enc.enc)])])[E_111.length]? =some (c_112,some [V.int .i64 w.Prime,V.isl (w.Dims.map Enc.enc),V.isl (w.Maps.map Enc.enc)]):=get_last _ _;have r_130:=Deep.frame (h':=⟨E_111++[(c_112,some [V.int .i64 w.Prime,V.isl (w.Dims.map Enc.enc),V.isl (w.Maps.map Enc.enc)])],c_112+1⟩) r_121 fun k q=>(List.getElem?_append_left (Deep.bd r_121 q):(E_111++[(c_112,some [V.int .i64 w.Prime,V.isl (w.Dims.map Enc.enc),V.isl (w.Maps.map Enc.enc)])])[k]? =_);have r_131:=Deep.frame (h':=⟨E_111++[(c_112,some [V.int .i64 w.Prime,V.isl (w.Dims.map Enc.enc),V.isl (w.Maps.map Enc.enc)])],c_112+1⟩) r_122 fun k q=>(List.getElem?_append_left (Deep.bd r_122 q):(E_111++[(c_112,some [V.int .i64 w.Prime,V.isl (w.Dims.map Enc.enc),V.isl (w.Maps.map Enc.enc)])])[k]? =_);have r_132:=Deep.frame (h':=⟨E_111++[(c_112,some [V.int .i64 w.Prime,V.isl (w.Dims.map Enc.enc),V.isl (w.Maps.map Enc.enc)])],c_112+1⟩) r_123 fun k q=>(List.getElem?_append_left (Deep.bd r_123 q):(E_111++[(c_112,some [V.int .i64 w.Prime,V.isl (w.Dims.map Enc.enc),V.isl (w.Maps.map Enc.enc)])])[k]? =_);have r_133:=Deep.frame (h':=⟨E_111++[(c_112,some [V.int .i64 w.Prime,V.isl (w.Dims.map Enc.enc),V.isl (w.Maps.map Enc.enc)])],c_112+1⟩) r_114 fun k q=>(List.getElem?_append_left (Deep.bd r_114 q):(E_111++[(c_112,some [V.int .i64 w.Prime,V.isl (w.Dims.map Enc.enc),V.isl (w.Maps.map Enc.enc)])])[k]? =_);obtain⟨z_134_e0,z_134_1,z_134_2⟩:=fz_GComplex r_133;simp only[simprocAttr, -Int.reduceNatCast',R0,b363,hl_0,h0_0,h1_0,h2_0,callM_tans,callM_plain_eq,get_last,set_last,le1,z0,eq_false c0,z1,eq_false c1,z2,eq_false c2,u0,x0,u1,x1,u2,x2,us,ui,xi,ue,y0,y1,y2,bw,t_5',f_9,f_10,f_11,t_17',f_21,f_22,f_24,f_25,f_26,one2,one2_t,t_33',f_37,f_38,f_39,z_42_1,z_42_2,z_43_0,z_43_1,z_43_2,z_44',t_49',f_53,f_54,f_55,f_59,f_60,f_61,f_62,z_67_1,z_67_2,z_68_1,z_68_2,z_69_0,z_69_1,z_69_2,z_70',w_73,f_77,f_78,f_79,f_80,w_86,f_90,f_91,f_92,f_93,w_99,f_103,f_104,f_105,f_106,z_110_1,z_110_2,eq_false ck,w_113,f_117,f_118,f_119,f_120,z_124_1,z_124_2,uh,eq_false cg,f_125,f_126,f_127,f_128,f_129,z_134_1,z_134_2];exact fin_ret (by simp only[simprocAttr, -Int.reduceNatCast',R0,fn_out,p363,Rs.ev,take_len_self,hl_0])
end
end Rv
