/- What the abstract code answers: typed functions, part 3. -/
import Derived.Test.YtadnnniccgdigaaGreatPgs1
namespace Rv
open Enc (enc)
set_option linter.unusedVariables false
set_option linter.unusedSimpArgs false
set_option maxRecDepth 100000
noncomputable section
def F124_1_B(a0:Int)(v7_1:Int)(o0_1:(List (List Int))):Option (((List (List Int)))⊕((List (List Int)))):=
 (F132 a0 v7_1).bind fun x5=>
(app 24 o0_1 [x5]).bind fun l8=>
some (.inl l8)
def F124_1_D(a0:Int)(v7_1:Int)(o0_1:(List (List Int))):Option ((List (List Int))):=
 some o0_1
def F124(a0:Int):Option (List (List Int)):=
 (forR 0 a0 (F124_1_B a0) (F124_1_D a0) ([]:(List (List Int)))).bind fun zo0_1=>
 some zo0_1
theorem d124(a0:Int){r:List (List Int)}(hF:F124 a0=some r):∃v h',res A 124 [V.int .i64 a0] Heap.empty=some (v,h')∧∃K,Deep.rep h' v r K:=by
 refine jR (f:=p124) rfl rfl rfl fun e hl he=>?_;have h0_0:e.at 0=V.int .i64 a0:=he 0 _ rfl;have hl_0:e.length=18:=hl;clear he hl;show W A b124 e ⟨[],0⟩ _;unfold F124 at hF;obtain⟨zo0_1,gt9,hF⟩:=bS hF;have hE:=wA hF; subst hE;simp only[simprocAttr, -Int.reduceNatCast',R1,b124, *];show W A (.block 0 (.loop true b124_1)) _ _ _;rw[qr];refine qF gt9 _ rfl (fun i l e h=>∃u vs K,h.ents[0]? =some (u,some vs)∧reps h vs l K∧¬K 0∧e.length=18∧e.at 0=V.int .i64 a0∧e.at 3=V.sl 0 u 0 l.length 1∧e.at 6=V.int .i64 a0∧e.at 7=V.int .i64 i) ?_ ?_ ?_
 ·refine⟨0,[],fun _=> False,rfl,fun _ x=> x,fun x=> x,?_⟩
  simp only[simprocAttr, -Int.reduceNatCast',R1, *]
 ·rintro i l e ⟨E,c⟩ ⟨u,vs,K,g1,g2,g3,hl_1,h0_1,h3_1,h6_1,h7_1⟩ hlt hw o ho
  unfold F124_1_B at ho;obtain⟨x7,gx7,ho⟩:=bS ho;have w8:=t132 a0 i gx7;obtain⟨l10,gl10,ho⟩:=bS ho;obtain⟨q1,q2,rfl⟩:=app_w gl10;have hE:=wA ho; subst hE;have hln:=g2.len;have hE0:0 < E.length:=(List.getElem?_eq_some_iff.1 g1).1;have w9:∀x y c',qR 1 24 (.sl 0 u 0 l.length 1) 1 [V.sl E.length c 0 x7.length 1] ⟨E++[x]++[y],c'⟩=_:=fun x y c'=> zn (E:=E++[x]++[y]) (vs:=vs) (by rw[List.getElem?_append_left (by simp),List.getElem?_append_left hE0]; exact g1) hln (by simpa using q1) (by simpa using q2);simp only[simprocAttr, -Int.reduceNatCast',R1,b124_1,qI,za,qG, *];have r1:=deep_round (h:=⟨E,c⟩) (h1:=⟨E++[(c,some (x7.map enc))],c+1⟩) (h2:=⟨(E++[(c,some (x7.map enc))]++[(c+1,some [V.sl E.length c 0 x7.length 1])]).set 0 (c+1+1,some (vs++[V.sl E.length c 0 x7.length 1])),c+1+1+1⟩) g2
   (jb (l:=x7) (K:=fun k=> k=E.length) (qG _ _) fun k=> yA) (fun k q=> by show E.length≤k; omega) (fun k q=> List.getElem?_append_left q) (fun k p q=> zp (fun e=> by subst e; exact q.elim g3 (fun q=> by omega)) p) (by simp)
  refine ai rfl ⟨_,_,_,qo (by simp),r1,fun q=> q.elim g3 (fun q=> by omega),?_⟩;simp only[simprocAttr, -Int.reduceNatCast',R1,wM, *]
 ·rintro i l e ⟨E,c⟩ ⟨u,vs,K,g1,g2,g3,hl_1,h0_1,h3_1,h6_1,h7_1⟩ hge t1 ho
  unfold F124_1_D at ho;have hE:=wA ho; subst hE;simp only[simprocAttr, -Int.reduceNatCast',R1,b124_1, *];intro ht; subst ht;refine ai (fun _=> trivial) ⟨_,by simp only[simprocAttr, -Int.reduceNatCast',R1,qh,p124,Rs.ev, *],fun k=> k=0∨K k,.inr ⟨0,u,vs,K,rfl,g1,g2,g3,fun k=> yA⟩⟩
theorem s124(a0:Int){r:List (List Int)}(hF:F124 a0=some r):ans A 124 [V.int .i64 a0]=some (enc r):=jZ (by decide) (d124 a0 hF)
def F100(a0:qe)(a1:Int):Option (List (List Int)):=
 if a1≤0 then
  (F102 a0 a1).bind fun x2=>
  (F124 x2).bind fun x4=>
  some x4
 else
  (F86 a0).bind fun x6=>
  if x6 < a1 then
   (F102 a0 a1).bind fun x9=>
   (F124 x9).bind fun x11=>
   some x11
  else
   (chk (a1 - 1)).bind fun x13=>
   (getI a0.Maps x13).bind fun x14=>
   (F125 a0.Prime x14).bind fun x16=>
   some x16
theorem s100(a0:qe)(a1:Int){r:List (List Int)}(hF:F100 a0 a1=some r):ans A 100 [(eC a0),V.int .i64 a1]=some (enc r):=by
 refine qx (f:=p100) rfl rfl rfl fun e hl he=>?_;have h0_0:e.at 0=(eC a0):=he 0 _ rfl;have h1_0:e.at 1=V.int .i64 a1:=he 1 _ rfl;have hl_0:e.length=26:=hl;clear he hl;have h_0:=ai hl_0 (ai h0_0 h1_0);show W A b100 e ⟨[],0⟩ _;unfold F100 at hF;by_cases c1:a1≤0
 ·rw[if_pos c1]at hF
  obtain⟨x2,gx2,hF⟩:=bS hF;have w3:=s102 a0 a1 gx2;obtain⟨x4,gx4,hF⟩:=bS hF;have w5:=s124 x2 gx4;cases hF;simp only[simprocAttr,R0,b100, *];exact qg (by simp only[simprocAttr,R0,qh,p100,Rs.ev,qd, *])
 ·rw[if_neg c1]at hF
  obtain⟨x6,gx6,hF⟩:=bS hF;have w7:=s86 a0 gx6;by_cases c8:x6 < a1
  ·rw[if_pos c8]at hF
   obtain⟨x9,gx9,hF⟩:=bS hF;have w10:=s102 a0 a1 gx9;obtain⟨x11,gx11,hF⟩:=bS hF;have w12:=s124 x9 gx11;cases hF;simp only[simprocAttr,R0,b100, *];exact qg (by simp only[simprocAttr,R0,qh,p100,Rs.ev,qd, *])
  ·rw[if_neg c8]at hF
   obtain⟨x13,gx13,hF⟩:=bS hF;have wx13:=qy gx13;obtain⟨x14,gx14,hF⟩:=bS hF;obtain⟨w15a,w15b⟩:=qm gx14;obtain⟨x16,gx16,hF⟩:=bS hF;have w17:=s125 a0.Prime x14 gx16;cases hF;simp only[simprocAttr,R0,b100, *];exact qg (by simp only[simprocAttr,R0,qh,p100,Rs.ev,qd, *])
def F168(a0:qe)(a1:Int):Option Int:=
 (F100 a0 a1).bind fun x1=>
 (F186 a0 a1).bind fun x5=>
 (chk ((x1.length:Int) - (x5.length:Int))).bind fun x9=>
 some x9
theorem s168(a0:qe)(a1:Int){r:Int}(hF:F168 a0 a1=some r):ans A 168 [(eC a0),V.int .i64 a1]=some (enc r):=by
 refine qx (f:=p168) rfl rfl rfl fun e hl he=>?_;have h0_0:e.at 0=(eC a0):=he 0 _ rfl;have h1_0:e.at 1=V.int .i64 a1:=he 1 _ rfl;have hl_0:e.length=14:=hl;clear he hl;show W A b168 e ⟨[],0⟩ _;unfold F168 at hF;obtain⟨x1,gx1,hF⟩:=bS hF;have w2:=s100 a0 a1 gx1;have w4:=s89 x1 rfl;obtain⟨x5,gx5,hF⟩:=bS hF;have w6:=s186 a0 a1 gx5;have w8:=s89 x5 rfl;obtain⟨x9,gx9,hF⟩:=bS hF;have wx9:=qy gx9;cases hF;simp only[simprocAttr,R0,b168, *];exact qg (by simp only[simprocAttr,R0,qh,p168,Rs.ev,qd, *])
def F149_1_B(a0:qe)(v13_1:Int)(o1_1:(List Int)):Option (((List Int))⊕((List Int))):=
 (F168 a0 v13_1).bind fun x9=>
(app 8 o1_1 [x9]).bind fun l12=>
some (.inl l12)
def F149_1_D(a0:qe)(v13_1:Int)(o1_1:(List Int)):Option ((List Int)):=
 some o1_1
def F149(a0:qe):Option (T2 (List Int) Int):=
 (F42 a0).bind fun x1=>
 if x1=true then
  (forR 0 (a0.Dims.length:Int) (F149_1_B a0) (F149_1_D a0) ([]:(List Int))).bind fun zo1_1=>
  some ⟨zo1_1,0⟩
 else
  some ⟨([]:List Int),1⟩
def I149_1(a0:qe)(v13_1:Int)(o1_1:(List Int))(e:Env)(h:Heap):Prop:=
 ∃u6 k7:Nat,h=⟨[(0,none),(u6,some (o1_1.map enc))],k7⟩∧e.length=24∧e.at 1=V.iptr [V.int .i64 a0.Prime,V.isl (a0.Dims.map enc),V.isl (a0.Maps.map enc)]∧e.at 4=V.sl 1 u6 0 o1_1.length 1∧e.at 12=V.int .i64 (a0.Dims.length:Int)∧e.at 13=V.int .i64 v13_1
def P149_1(a0:qe)(zo1_1:(List Int))(x:Ex)(e:Env)(h:Heap):Prop:=
 x= .normal∧∃u6 k7:Nat,h=⟨[(0,none),(u6,some (zo1_1.map enc))],k7⟩∧e.length=24∧e.at 4=V.sl 1 u6 0 zo1_1.length 1
theorem l149_1(a0:qe){lo:Int}{s:(List Int)}{t:(List Int)}(hF:forR lo (a0.Dims.length:Int) (F149_1_B a0) (F149_1_D a0) s=some t){e:Env}{h:Heap}(hI:I149_1 a0 lo s e h):W A c149_1 e h (P149_1 a0 t):=by
 show W A (.block 0 (.loop false b149_1)) e h _;rw[qr];refine qF hF 2 (by obtain⟨_,_,rfl,_⟩:=hI; rfl) (I149_1 a0) hI ?_ ?_
 ·rintro v13_1 o1_1 e h ⟨u6,k7,rfl,h_5⟩ hlt hw o ho
  unfold F149_1_B at ho;obtain⟨x9,gx9,ho⟩:=bS ho;have w10:=s168 a0 v13_1 gx9;obtain⟨l12,gl12,ho⟩:=bS ho;have w11:=fun a b c d e=> qA (α:=Int) (n:=o1_1.length) (m:=1) (ds:=[V.int .i64 x9]) gl12 (by first|rfl|simp) (by first|rfl|simp) rfl a b c d e;have w11l:=qN gl12;cases ho;simp only[simprocAttr,R0,b149_1, *];refine ai rfl (ei _ (ei _ (ai rfl ?_)));simp only[simprocAttr,R0, *]
 ·rintro v13_1 o1_1 e h ⟨u6,k7,rfl,h_5⟩ hge t1 ho
  unfold F149_1_D at ho;cases ho;simp only[simprocAttr,R0,b149_1, *];intro ht; subst ht;refine ai rfl (ei _ (ei _ (ai rfl ?_)));simp only[simprocAttr,R0, *]
theorem s149(a0:qe){r:T2 (List Int) Int}(hF:F149 a0=some r):ans A 149 [(eC a0)]=some (EncR.enc r):=by
 refine qx (f:=p149) rfl rfl rfl fun e hl he=>?_;have h0_0:e.at 0=(eC a0):=he 0 _ rfl;have hl_0:e.length=24:=hl;clear he hl;have h_0:=ai hl_0 h0_0;show W A b149 e ⟨[],0⟩ _;unfold F149 at hF;obtain⟨x1,gx1,hF⟩:=bS hF;have w2:=s42 a0 gx1;cases x1 with
 |true=>
  rw[if_pos rfl]at hF;have w4:=s73 a0.Dims rfl;obtain⟨zo1_1,gt13,hF⟩:=bS hF;simp only[simprocAttr,R0,b149, *];refine W.mono (l149_1 a0 gt13 (ei _ (ei _ (ai rfl ?_)))) ?_
  ·simp only[simprocAttr,R0, *]
  rintro _ e _ ⟨rfl,u6,k7,rfl,h_8⟩;cases hF;simp only[simprocAttr,R0, *];exact qg (by simp only[simprocAttr,R0,qh,p149,Rs.ev,qd,frzs (α:=Int) zo1_1,qP (α:=Int) zo1_1, *])
 |false=>
  rw[if_neg wE]at hF;cases hF;simp only[simprocAttr,R0,b149, *];exact qg (by simp only[simprocAttr,R0,qh,p149,Rs.ev,qd, *])
def F440(a0:qe):Option (T2 (List Int) Bool):=
 (F149 a0).bind fun x1=>
 some ⟨x1.a,decide (x1.b=0)⟩
theorem s440(a0:qe){r:T2 (List Int) Bool}(hF:F440 a0=some r):ans A 440 [(eC a0)]=some (EncR.enc r):=by
 refine qx (f:=p440) rfl rfl rfl fun e hl he=>?_;have h0_0:e.at 0=(eC a0):=he 0 _ rfl;have hl_0:e.length=14:=hl;clear he hl;show W A b440 e ⟨[],0⟩ _;unfold F440 at hF;obtain⟨x1,gx1,hF⟩:=bS hF;have w2:ans A 149 [(eC a0)]=some (V.tup [V.isl (x1.a.map enc),V.int .i64 x1.b]):=s149 a0 gx1;cases hF;simp only[simprocAttr,R0,b440, *];exact qg (by simp only[simprocAttr,R0,qh,p440,Rs.ev,qd, *])
def F455_1_B(x3:T4 qc Int Int Int)(x5:T2 Int Int)(x11:T2 Int Int)(x17:T2 qc Int)(x19:T2 (List (List Int)) Int)(x26:T3 qc Int Int)(x28:T2 Int Int)(x35:T2 Int Int)(v31_1:Int)(v30_1:Int):Option ((Int)⊕(Int)):=
 (remI v31_1 2).bind fun x40=>
if x40=0 then
 (getI x19.a v31_1).bind fun x43=>
 (F150 x43).bind fun x45=>
 (chk (v30_1+x45)).bind fun x47=>
 some (.inl x47)
else
 (getI x19.a v31_1).bind fun x48=>
 (F150 x48).bind fun x50=>
 (chk (v30_1 - x50)).bind fun x52=>
 some (.inl x52)
def F455_1_D(x3:T4 qc Int Int Int)(x5:T2 Int Int)(x11:T2 Int Int)(x17:T2 qc Int)(x19:T2 (List (List Int)) Int)(x26:T3 qc Int Int)(x28:T2 Int Int)(x35:T2 Int Int)(v31_1:Int)(v30_1:Int):Option (Int):=
 some v30_1
def F455_2_S(z3_0:Int)(z3_1:List Int)(z3_2:List (List (List Int)))(z3_3:List (List Int))(y4:Int)(y5:Int)(y6:Int)(y7:Int)(y8:Int)(y11:Int)(y12:Int)(z21_0:Int)(z21_1:List Int)(z21_2:List (List (List Int)))(z21_3:List (List Int))(y22:Int)(x58:T2 (List Int) Bool)(s:Int×Int):Option ((Int×Int)⊕((Int)⊕Bool)):=
 match s with
 |(v34_2,v35_2)=>
  if v35_2≤5 then
   (F438 ⟨⟨z21_0,z21_1,z21_2⟩,z21_3⟩ y22 v35_2).bind fun x64=>
   if x64.b=0 then
    (chk (v34_2+x64.a)).bind fun x67=>
    (chk (v35_2+1)).bind fun x68=>
    some (.inl (x67,x68))
   else
    some (.inr (.inr false))
  else
   some (.inr (.inl v34_2))
def F455_93(y7:Int)(y11:Int)(y12:Int)(y38:Int)(y39:Int)(y40:Int):Option Bool:=
 if y39=0 then
  if y12=0 then
   (chk (y7 - y11)).bind fun x90=>
   (chk (x90 - y40)).bind fun x91=>
   some (decide (y38=x91))
  else
   some false
 else
  some false
def F455_92(z3_0:Int)(z3_1:List Int)(z3_2:List (List (List Int)))(z3_3:List (List Int))(y4:Int)(y5:Int)(y6:Int)(y7:Int)(y8:Int)(y11:Int)(y12:Int):Option Bool:=
 if y8=0 then
  if 7 < y4 then
   some true
  else
   (chk (y4+1)).bind fun x77=>
   (F151 ⟨⟨z3_0,z3_1,z3_2⟩,z3_3⟩ x77 y5 y6).bind fun x78=>
   (chk (y5+1)).bind fun x80=>
   if x80 < (z3_3.length:Int)then
    (chk (y6+y4)).bind fun x82=>
    if x82≤5 then
     (F152 ⟨⟨z3_0,z3_1,z3_2⟩,z3_3⟩ y4 x80 x82).bind fun x84=>
     if x84.b=0 then
      F455_93 y7 y11 y12 x78.a x78.b x84.a
     else
      some false
    else
     F455_93 y7 y11 y12 x78.a x78.b 0
   else
    F455_93 y7 y11 y12 x78.a x78.b 0
 else
  if y7=0 then
   some (decide (y11=0))
  else
   some false
def F455_91(z3_0:Int)(z3_1:List Int)(z3_2:List (List (List Int)))(z3_3:List (List Int))(y4:Int)(y5:Int)(y6:Int)(y7:Int)(y8:Int)(y11:Int)(y12:Int)(z21_0:Int)(z21_1:List Int)(z21_2:List (List (List Int)))(z21_3:List (List Int))(y22:Int)(y25:Int):Option Bool:=
 if y25=0 then
  (F440 ⟨z21_0,z21_1,z21_2⟩).bind fun x58=>
  (qY (F455_2_S z3_0 z3_1 z3_2 z3_3 y4 y5 y6 y7 y8 y11 y12 z21_0 z21_1 z21_2 z21_3 y22 x58) (0,0)).bind fun t69=> match t69 with
   | .inl zv34_2=>
    if x58.b=true then
     (getI x58.a y22).bind fun x71=>
     if zv34_2=x71 then
      F455_92 z3_0 z3_1 z3_2 z3_3 y4 y5 y6 y7 y8 y11 y12
     else
      some false
    else
     some false
   | .inr r93=> some r93
 else
  F455_92 z3_0 z3_1 z3_2 z3_3 y4 y5 y6 y7 y8 y11 y12
def F455(a0:List U8):Option Bool:=
 (F140 a0).bind fun x1=>
 if x1=true then
  some true
 else
  (F434 a0).bind fun x3=>
  (F151 x3.a x3.b x3.c x3.d).bind fun x5=>
  (F435 x3.a x3.b x3.c x3.d).bind fun x7=>
  if x5.b=x7.b then
   if x5.a=x7.a then
    (F152 x3.a x3.b x3.c x3.d).bind fun x11=>
    (F223 x3.a x3.b x3.c x3.d).bind fun x13=>
    if x11.b=x13.b then
     if x11.a=x13.a then
      (F436 a0).bind fun x17=>
      (F148 x17.a x17.b).bind fun x19=>
      (F234 x17.a x17.b).bind fun x21=>
      if x19.b=x21.b then
       (F160 x19.a x21.a).bind fun x24=>
       if x24=true then
        (F437 a0).bind fun x26=>
        (F438 x26.a x26.b x26.c).bind fun x28=>
        (F439 x26.a x26.b x26.c).bind fun x30=>
        if x28.b=x30.b then
         if x28.a=x30.a then
          if x19.b=0 then
           (F400 x17.a.Complex).bind fun x35=>
           (forR 0 (x19.a.length:Int) (F455_1_B x3 x5 x11 x17 x19 x26 x28 x35) (F455_1_D x3 x5 x11 x17 x19 x26 x28 x35) 0).bind fun zv30_1=>
           if x35.b=0 then
            if zv30_1=x35.a then
             F455_91 x3.a.Complex.Prime x3.a.Complex.Dims x3.a.Complex.Maps x3.a.Levels x3.b x3.c x3.d x5.a x5.b x11.a x11.b x26.a.Complex.Prime x26.a.Complex.Dims x26.a.Complex.Maps x26.a.Levels x26.b x28.b
            else
             some false
           else
            some false
          else
           F455_91 x3.a.Complex.Prime x3.a.Complex.Dims x3.a.Complex.Maps x3.a.Levels x3.b x3.c x3.d x5.a x5.b x11.a x11.b x26.a.Complex.Prime x26.a.Complex.Dims x26.a.Complex.Maps x26.a.Levels x26.b x28.b
         else
          some false
        else
         some false
       else
        some false
      else
       some false
     else
      some false
    else
     some false
   else
    some false
  else
   some false
def I455_1(x3:T4 qc Int Int Int)(x5:T2 Int Int)(x11:T2 Int Int)(x17:T2 qc Int)(x19:T2 (List (List Int)) Int)(x26:T3 qc Int Int)(x28:T2 Int Int)(x35:T2 Int Int)(v31_1:Int)(v30_1:Int)(e:Env)(h:Heap):Prop:=
 ∃k38:Nat,h=⟨[(0,some [V.int .i64 x3.a.Complex.Prime,V.isl (x3.a.Complex.Dims.map enc),V.isl (x3.a.Complex.Maps.map enc),V.isl (x3.a.Levels.map enc)]),(1,some [V.int .i64 x17.a.Complex.Prime,V.isl (x17.a.Complex.Dims.map enc),V.isl (x17.a.Complex.Maps.map enc),V.isl (x17.a.Levels.map enc)]),(2,some [V.int .i64 x26.a.Complex.Prime,V.isl (x26.a.Complex.Dims.map enc),V.isl (x26.a.Complex.Maps.map enc),V.isl (x26.a.Levels.map enc)])],k38⟩∧e.length=286∧e.at 3=V.ptr 0 0 0∧e.at 4=V.int .i64 x3.b∧e.at 5=V.int .i64 x3.c∧e.at 6=V.int .i64 x3.d∧e.at 7=V.int .i64 x5.a∧e.at 8=V.int .i64 x5.b∧e.at 11=V.int .i64 x11.a∧e.at 12=V.int .i64 x11.b∧e.at 17=V.isl (x19.a.map enc)∧e.at 21=V.ptr 2 2 0∧e.at 22=V.int .i64 x26.b∧e.at 25=V.int .i64 x28.b∧e.at 28=V.int .i64 x35.a∧e.at 29=V.int .i64 x35.b∧e.at 30=V.int .i64 v30_1∧e.at 31=V.int .i64 v31_1
def P455_1(x3:T4 qc Int Int Int)(x5:T2 Int Int)(x11:T2 Int Int)(x17:T2 qc Int)(x19:T2 (List (List Int)) Int)(x26:T3 qc Int Int)(x28:T2 Int Int)(x35:T2 Int Int)(zv30_1:Int)(x:Ex)(e:Env)(h:Heap):Prop:=
 x= .normal∧∃k38:Nat,h=⟨[(0,some [V.int .i64 x3.a.Complex.Prime,V.isl (x3.a.Complex.Dims.map enc),V.isl (x3.a.Complex.Maps.map enc),V.isl (x3.a.Levels.map enc)]),(1,some [V.int .i64 x17.a.Complex.Prime,V.isl (x17.a.Complex.Dims.map enc),V.isl (x17.a.Complex.Maps.map enc),V.isl (x17.a.Levels.map enc)]),(2,some [V.int .i64 x26.a.Complex.Prime,V.isl (x26.a.Complex.Dims.map enc),V.isl (x26.a.Complex.Maps.map enc),V.isl (x26.a.Levels.map enc)])],k38⟩∧e.length=286∧e.at 3=V.ptr 0 0 0∧e.at 4=V.int .i64 x3.b∧e.at 5=V.int .i64 x3.c∧e.at 6=V.int .i64 x3.d∧e.at 7=V.int .i64 x5.a∧e.at 8=V.int .i64 x5.b∧e.at 11=V.int .i64 x11.a∧e.at 12=V.int .i64 x11.b∧e.at 21=V.ptr 2 2 0∧e.at 22=V.int .i64 x26.b∧e.at 25=V.int .i64 x28.b∧e.at 28=V.int .i64 x35.a∧e.at 29=V.int .i64 x35.b∧e.at 30=V.int .i64 zv30_1
theorem l455_1(x3:T4 qc Int Int Int)(x5:T2 Int Int)(x11:T2 Int Int)(x17:T2 qc Int)(x19:T2 (List (List Int)) Int)(x26:T3 qc Int Int)(x28:T2 Int Int)(x35:T2 Int Int){lo:Int}{s:Int}{t:Int}(hF:forR lo (x19.a.length:Int) (F455_1_B x3 x5 x11 x17 x19 x26 x28 x35) (F455_1_D x3 x5 x11 x17 x19 x26 x28 x35) s=some t){e:Env}{h:Heap}(hI:I455_1 x3 x5 x11 x17 x19 x26 x28 x35 lo s e h):W A c455_1 e h (P455_1 x3 x5 x11 x17 x19 x26 x28 x35 t):=by
 show W A (.block 0 (.loop false b455_1)) e h _;rw[qr];refine qF hF 3 (by obtain⟨_,rfl,_⟩:=hI; rfl) (I455_1 x3 x5 x11 x17 x19 x26 x28 x35) hI ?_ ?_
 ·rintro v31_1 v30_1 e h ⟨k38,rfl,h_37⟩ hlt hw o ho
  unfold F455_1_B at ho;obtain⟨x40,gx40,ho⟩:=bS ho;obtain⟨w41a,w41b⟩:=rem_w gx40;by_cases c42:x40=0
  ·rw[if_pos c42]at ho
   obtain⟨x43,gx43,ho⟩:=bS ho;obtain⟨w44a,w44b⟩:=qm gx43;obtain⟨x45,gx45,ho⟩:=bS ho;have w46:=s150 x43 gx45;obtain⟨x47,gx47,ho⟩:=bS ho;have wx47:=qy gx47;cases ho;simp only[simprocAttr,R0,b455_1, *];refine ai rfl (ei _ (ai rfl ?_));simp only[simprocAttr,R0, *]
  ·rw[if_neg c42]at ho
   obtain⟨x48,gx48,ho⟩:=bS ho;obtain⟨w49a,w49b⟩:=qm gx48;obtain⟨x50,gx50,ho⟩:=bS ho;have w51:=s150 x48 gx50;obtain⟨x52,gx52,ho⟩:=bS ho;have wx52:=qy gx52;cases ho;simp only[simprocAttr,R0,b455_1, *];refine ai rfl (ei _ (ai rfl ?_));simp only[simprocAttr,R0, *]
 ·rintro v31_1 v30_1 e h ⟨k38,rfl,h_37⟩ hge t1 ho
  unfold F455_1_D at ho;cases ho;simp only[simprocAttr,R0,b455_1, *];intro ht; subst ht;refine ai rfl (ei _ (ai rfl ?_));simp only[simprocAttr,R0, *]
def I455_2(z3_0:Int)(z3_1:List Int)(z3_2:List (List (List Int)))(z3_3:List (List Int))(y4:Int)(y5:Int)(y6:Int)(y7:Int)(y8:Int)(y11:Int)(y12:Int)(z21_0:Int)(z21_1:List Int)(z21_2:List (List (List Int)))(z21_3:List (List Int))(y22:Int)(x58:T2 (List Int) Bool)(r1:Nat×Option (List V))(s:Int×Int)(e:Env)(h:Heap):Prop:=
 match s with
 |(v34_2,v35_2)=>
  ∃k61:Nat,h=⟨[(0,some [V.int .i64 z3_0,V.isl (z3_1.map enc),V.isl (z3_2.map enc),V.isl (z3_3.map enc)]),r1,(2,some [V.int .i64 z21_0,V.isl (z21_1.map enc),V.isl (z21_2.map enc),V.isl (z21_3.map enc)])],k61⟩∧e.length=286∧e.at 3=V.ptr 0 0 0∧e.at 4=V.int .i64 y4∧e.at 5=V.int .i64 y5∧e.at 6=V.int .i64 y6∧e.at 7=V.int .i64 y7∧e.at 8=V.int .i64 y8∧e.at 11=V.int .i64 y11∧e.at 12=V.int .i64 y12∧e.at 21=V.ptr 2 2 0∧e.at 22=V.int .i64 y22∧e.at 32=V.isl (x58.a.map enc)∧e.at 33=V.bool x58.b∧e.at 34=V.int .i64 v34_2∧e.at 35=V.int .i64 v35_2
def P455_2(z3_0:Int)(z3_1:List Int)(z3_2:List (List (List Int)))(z3_3:List (List Int))(y4:Int)(y5:Int)(y6:Int)(y7:Int)(y8:Int)(y11:Int)(y12:Int)(z21_0:Int)(z21_1:List Int)(z21_2:List (List (List Int)))(z21_3:List (List Int))(y22:Int)(x58:T2 (List Int) Bool)(r1:Nat×Option (List V))(t:(Int)⊕Bool)(x:Ex)(e:Env)(h:Heap):Prop:=
 match t with
 | .inl zv34_2=> x= .normal∧∃k61:Nat,h=⟨[(0,some [V.int .i64 z3_0,V.isl (z3_1.map enc),V.isl (z3_2.map enc),V.isl (z3_3.map enc)]),r1,(2,some [V.int .i64 z21_0,V.isl (z21_1.map enc),V.isl (z21_2.map enc),V.isl (z21_3.map enc)])],k61⟩∧e.length=286∧e.at 3=V.ptr 0 0 0∧e.at 4=V.int .i64 y4∧e.at 5=V.int .i64 y5∧e.at 6=V.int .i64 y6∧e.at 7=V.int .i64 y7∧e.at 8=V.int .i64 y8∧e.at 11=V.int .i64 y11∧e.at 12=V.int .i64 y12∧e.at 22=V.int .i64 y22∧e.at 32=V.isl (x58.a.map enc)∧e.at 33=V.bool x58.b∧e.at 34=V.int .i64 zv34_2
 | .inr r=> x= .ret∧Fin p455 (enc r) .ret e h
theorem l455_2(z3_0:Int)(z3_1:List Int)(z3_2:List (List (List Int)))(z3_3:List (List Int))(y4:Int)(y5:Int)(y6:Int)(y7:Int)(y8:Int)(y11:Int)(y12:Int)(z21_0:Int)(z21_1:List Int)(z21_2:List (List (List Int)))(z21_3:List (List Int))(y22:Int)(x58:T2 (List Int) Bool)(r1:Nat×Option (List V)){s:Int×Int}{t:(Int)⊕Bool}(hF:qY (F455_2_S z3_0 z3_1 z3_2 z3_3 y4 y5 y6 y7 y8 y11 y12 z21_0 z21_1 z21_2 z21_3 y22 x58) s=some t){e:Env}{h:Heap}(hI:I455_2 z3_0 z3_1 z3_2 z3_3 y4 y5 y6 y7 y8 y11 y12 z21_0 z21_1 z21_2 z21_3 y22 x58 r1 s e h):W A c455_2 e h (P455_2 z3_0 z3_1 z3_2 z3_3 y4 y5 y6 y7 y8 y11 y12 z21_0 z21_1 z21_2 z21_3 y22 x58 r1 t):=by
 show W A (.block 2 (.loop false b455_2)) e h _;rw[qr];refine jh hF 3 (by rcases s with⟨_,_⟩; obtain⟨_,rfl,_⟩:=hI; rfl) (I455_2 z3_0 z3_1 z3_2 z3_3 y4 y5 y6 y7 y8 y11 y12 z21_0 z21_1 z21_2 z21_3 y22 x58 r1) hI ?_
 ·rintro⟨v34_2,v35_2⟩ e h ⟨k61,rfl,h_60⟩ o ho
  unfold F455_2_S at ho;dsimp only at ho;by_cases c63:v35_2≤5
  ·rw[if_pos c63]at ho
   obtain⟨x64,gx64,ho⟩:=bS ho;have w65:ans A 438 [V.agg [V.int .i64 z21_0,V.isl (z21_1.map enc),V.isl (z21_2.map enc),V.isl (z21_3.map enc)],V.int .i64 y22,V.int .i64 v35_2]=some (V.tup [V.int .i64 x64.a,V.int .i64 x64.b]):=s438 ⟨⟨z21_0,z21_1,z21_2⟩,z21_3⟩ y22 v35_2 gx64;by_cases c66:x64.b=0
   ·rw[if_pos c66]at ho
    obtain⟨x67,gx67,ho⟩:=bS ho;have wx67:=qy gx67;obtain⟨x68,gx68,ho⟩:=bS ho;have wx68:=qy gx68;cases ho;simp only[simprocAttr,R0,b455_2, *];refine ai rfl (ei _ (ai rfl ?_));simp only[simprocAttr,R0, *]
   ·rw[if_neg c66]at ho
    cases ho;simp only[simprocAttr,R0,b455_2, *];intro ht; subst ht;simp only[simprocAttr,RR,RB];exact ai rfl (qg (by simp only[simprocAttr,R0,qh,p455,Rs.ev,qd, *]))
  ·rw[if_neg c63]at ho
   cases ho;simp only[simprocAttr,R0,b455_2, *];intro ht; subst ht;simp only[simprocAttr,RR,RB];refine ai rfl (ei _ (ai rfl ?_));simp only[simprocAttr,R0, *]
theorem k455_3_3(r0 r1 r2:Nat×Option (List V))(y7:Int)(y11:Int)(y12:Int)(y38:Int)(y39:Int)(y40:Int){r:Bool}(hF:F455_93 y7 y11 y12 y38 y39 y40=some r){ck:Nat}{e:Env}(hC:e.length=286∧e.at 7=V.int .i64 y7∧e.at 11=V.int .i64 y11∧e.at 12=V.int .i64 y12∧e.at 38=V.int .i64 y38∧e.at 39=V.int .i64 y39∧e.at 40=V.int .i64 y40):W A j455_3 e ⟨[r0,r1,r2],ck⟩ (Fin p455 (enc r)):=by
 obtain⟨hl_87,h7_87,h11_87,h12_87,h38_87,h39_87,h40_87⟩:=hC;unfold F455_93 at hF;by_cases c88:y39=0
 ·rw[if_pos c88]at hF
  by_cases c89:y12=0
  ·rw[if_pos c89]at hF
   obtain⟨x90,gx90,hF⟩:=bS hF;have wx90:=qy gx90;obtain⟨x91,gx91,hF⟩:=bS hF;have wx91:=qy gx91;have hE:=wA hF; subst hE;simp only[simprocAttr, -Int.reduceNatCast',R0,j455_3, *];exact qg (by simp only[simprocAttr, -Int.reduceNatCast',R0,qh,p455,Rs.ev,qd, *])
  ·rw[if_neg c89]at hF
   have hE:=wA hF; subst hE;simp only[simprocAttr, -Int.reduceNatCast',R0,j455_3, *];exact qg (by simp only[simprocAttr, -Int.reduceNatCast',R0,qh,p455,Rs.ev,qd, *])
 ·rw[if_neg c88]at hF
  have hE:=wA hF; subst hE;simp only[simprocAttr, -Int.reduceNatCast',R0,j455_3, *];exact qg (by simp only[simprocAttr, -Int.reduceNatCast',R0,qh,p455,Rs.ev,qd, *])
theorem k455_2_3(r1 r2:Nat×Option (List V))(z3_0:Int)(z3_1:List Int)(z3_2:List (List (List Int)))(z3_3:List (List Int))(y4:Int)(y5:Int)(y6:Int)(y7:Int)(y8:Int)(y11:Int)(y12:Int){r:Bool}(hF:F455_92 z3_0 z3_1 z3_2 z3_3 y4 y5 y6 y7 y8 y11 y12=some r){ck:Nat}{e:Env}(hC:e.length=286∧e.at 3=V.ptr 0 0 0∧e.at 4=V.int .i64 y4∧e.at 5=V.int .i64 y5∧e.at 6=V.int .i64 y6∧e.at 7=V.int .i64 y7∧e.at 8=V.int .i64 y8∧e.at 11=V.int .i64 y11∧e.at 12=V.int .i64 y12):W A j455_2 e ⟨[(0,some [V.int .i64 z3_0,V.isl (z3_1.map enc),V.isl (z3_2.map enc),V.isl (z3_3.map enc)]),r1,r2],ck⟩ (Fin p455 (enc r)):=by
 obtain⟨hl_74,h3_74,h4_74,h5_74,h6_74,h7_74,h8_74,h11_74,h12_74⟩:=hC;unfold F455_92 at hF;by_cases c75:y8=0
 ·rw[if_pos c75]at hF
  by_cases c76:7 < y4
  ·rw[if_pos c76]at hF
   have hE:=wA hF; subst hE;simp only[simprocAttr, -Int.reduceNatCast',R0,j455_2, *];exact qg (by simp only[simprocAttr, -Int.reduceNatCast',R0,qh,p455,Rs.ev,qd, *])
  ·rw[if_neg c76]at hF
   obtain⟨x77,gx77,hF⟩:=bS hF;have wx77:=qy gx77;obtain⟨x78,gx78,hF⟩:=bS hF;have w79:ans A 151 [V.agg [V.int .i64 z3_0,V.isl (z3_1.map enc),V.isl (z3_2.map enc),V.isl (z3_3.map enc)],V.int .i64 x77,V.int .i64 y5,V.int .i64 y6]=some (V.tup [V.int .i64 x78.a,V.int .i64 x78.b]):=s151 ⟨⟨z3_0,z3_1,z3_2⟩,z3_3⟩ x77 y5 y6 gx78;obtain⟨x80,gx80,hF⟩:=bS hF;have wx80:=qy gx80;by_cases c81:x80 < (z3_3.length:Int)
   ·rw[if_pos c81]at hF
    obtain⟨x82,gx82,hF⟩:=bS hF;have wx82:=qy gx82;by_cases c83:x82≤5
    ·rw[if_pos c83]at hF
     obtain⟨x84,gx84,hF⟩:=bS hF;have w85:ans A 152 [V.agg [V.int .i64 z3_0,V.isl (z3_1.map enc),V.isl (z3_2.map enc),V.isl (z3_3.map enc)],V.int .i64 y4,V.int .i64 x80,V.int .i64 x82]=some (V.tup [V.int .i64 x84.a,V.int .i64 x84.b]):=s152 ⟨⟨z3_0,z3_1,z3_2⟩,z3_3⟩ y4 x80 x82 gx84;by_cases c86:x84.b=0
     ·rw[if_pos c86]at hF
      simp only[simprocAttr, -Int.reduceNatCast',R0,j455_2, *];refine k455_3_3 _ _ _ y7 y11 y12 x78.a x78.b x84.a hF ?_;simp only[simprocAttr, -Int.reduceNatCast',R0, *]
     ·rw[if_neg c86]at hF
      have hE:=wA hF; subst hE;simp only[simprocAttr, -Int.reduceNatCast',R0,j455_2, *];exact qg (by simp only[simprocAttr, -Int.reduceNatCast',R0,qh,p455,Rs.ev,qd, *])
    ·rw[if_neg c83]at hF
     simp only[simprocAttr, -Int.reduceNatCast',R0,j455_2, *];refine k455_3_3 _ _ _ y7 y11 y12 x78.a x78.b 0 hF ?_;simp only[simprocAttr, -Int.reduceNatCast',R0, *]
   ·rw[if_neg c81]at hF
    simp only[simprocAttr, -Int.reduceNatCast',R0,j455_2, *];refine k455_3_3 _ _ _ y7 y11 y12 x78.a x78.b 0 hF ?_;simp only[simprocAttr, -Int.reduceNatCast',R0, *]
 ·rw[if_neg c75]at hF
  by_cases c92:y7=0
  ·rw[if_pos c92]at hF
   have hE:=wA hF; subst hE;simp only[simprocAttr, -Int.reduceNatCast',R0,j455_2, *];exact qg (by simp only[simprocAttr, -Int.reduceNatCast',R0,qh,p455,Rs.ev,qd, *])
  ·rw[if_neg c92]at hF
   have hE:=wA hF; subst hE;simp only[simprocAttr, -Int.reduceNatCast',R0,j455_2, *];exact qg (by simp only[simprocAttr, -Int.reduceNatCast',R0,qh,p455,Rs.ev,qd, *])
theorem k455_1_3(r1:Nat×Option (List V))(z3_0:Int)(z3_1:List Int)(z3_2:List (List (List Int)))(z3_3:List (List Int))(y4:Int)(y5:Int)(y6:Int)(y7:Int)(y8:Int)(y11:Int)(y12:Int)(z21_0:Int)(z21_1:List Int)(z21_2:List (List (List Int)))(z21_3:List (List Int))(y22:Int)(y25:Int){r:Bool}(hF:F455_91 z3_0 z3_1 z3_2 z3_3 y4 y5 y6 y7 y8 y11 y12 z21_0 z21_1 z21_2 z21_3 y22 y25=some r){ck:Nat}{e:Env}(hC:e.length=286∧e.at 3=V.ptr 0 0 0∧e.at 4=V.int .i64 y4∧e.at 5=V.int .i64 y5∧e.at 6=V.int .i64 y6∧e.at 7=V.int .i64 y7∧e.at 8=V.int .i64 y8∧e.at 11=V.int .i64 y11∧e.at 12=V.int .i64 y12∧e.at 21=V.ptr 2 2 0∧e.at 22=V.int .i64 y22∧e.at 25=V.int .i64 y25):W A j455_1 e ⟨[(0,some [V.int .i64 z3_0,V.isl (z3_1.map enc),V.isl (z3_2.map enc),V.isl (z3_3.map enc)]),r1,(2,some [V.int .i64 z21_0,V.isl (z21_1.map enc),V.isl (z21_2.map enc),V.isl (z21_3.map enc)])],ck⟩ (Fin p455 (enc r)):=by
 obtain⟨hl_56,h3_56,h4_56,h5_56,h6_56,h7_56,h8_56,h11_56,h12_56,h21_56,h22_56,h25_56⟩:=hC;unfold F455_91 at hF;by_cases c57:y25=0
 ·rw[if_pos c57]at hF
  obtain⟨x58,gx58,hF⟩:=bS hF;have w59:ans A 440 [V.agg [V.int .i64 z21_0,V.isl (z21_1.map enc),V.isl (z21_2.map enc)]]=some (V.tup [V.isl (x58.a.map enc),V.bool x58.b]):=s440 ⟨z21_0,z21_1,z21_2⟩ gx58;obtain⟨t69,gt69,hF⟩:=bS hF;rcases t69 with zv34_2|r93
  ·dsimp only at hF
   simp only[simprocAttr, -Int.reduceNatCast',R0,j455_1, *];refine W.mono (l455_2 z3_0 z3_1 z3_2 z3_3 y4 y5 y6 y7 y8 y11 y12 z21_0 z21_1 z21_2 z21_3 y22 x58 r1 gt69 (ei _ (ai rfl ?_))) ?_
   ·simp only[simprocAttr, -Int.reduceNatCast',R0, *]
   rintro _ e _ ⟨rfl,k61,rfl,hl_62,h3_62,h4_62,h5_62,h6_62,h7_62,h8_62,h11_62,h12_62,h22_62,h32_62,h33_62,h34_62⟩;by_cases c70:x58.b=true
   ·rw[if_pos c70]at hF
    obtain⟨x71,gx71,hF⟩:=bS hF;obtain⟨w72a,w72b⟩:=qm gx71;by_cases c73:zv34_2=x71
    ·rw[if_pos c73]at hF
     simp only[simprocAttr, -Int.reduceNatCast',R0, *];refine k455_2_3 _ _ z3_0 z3_1 z3_2 z3_3 y4 y5 y6 y7 y8 y11 y12 hF ?_;simp only[simprocAttr, -Int.reduceNatCast',R0, *]
    ·rw[if_neg c73]at hF
     have hE:=wA hF; subst hE;simp only[simprocAttr, -Int.reduceNatCast',R0, *];exact qg (by simp only[simprocAttr, -Int.reduceNatCast',R0,qh,p455,Rs.ev,qd, *])
   ·rw[if_neg c70]at hF
    have hE:=wA hF; subst hE;simp only[simprocAttr, -Int.reduceNatCast',R0,Bool.eq_false_iff.2 c70, *];exact qg (by simp only[simprocAttr, -Int.reduceNatCast',R0,qh,p455,Rs.ev,qd,Bool.eq_false_iff.2 c70, *])
  ·dsimp only at hF
   have hE:=wA hF; subst hE;simp only[simprocAttr, -Int.reduceNatCast',R0,j455_1, *];refine W.mono (l455_2 z3_0 z3_1 z3_2 z3_3 y4 y5 y6 y7 y8 y11 y12 z21_0 z21_1 z21_2 z21_3 y22 x58 r1 gt69 (ei _ (ai rfl ?_))) ?_
   ·simp only[simprocAttr, -Int.reduceNatCast',R0, *]
   rintro _ e h ⟨rfl,hq⟩;simp only[simprocAttr, -Int.reduceNatCast',RR,RB];exact hq
 ·rw[if_neg c57]at hF
  simp only[simprocAttr, -Int.reduceNatCast',R0,j455_1, *];refine k455_2_3 _ _ z3_0 z3_1 z3_2 z3_3 y4 y5 y6 y7 y8 y11 y12 hF ?_;simp only[simprocAttr, -Int.reduceNatCast',R0, *]
set_option maxHeartbeats 8000000 in
theorem s455(a0:List U8){r:Bool}(hF:F455 a0=some r):ans A 455 [V.isl (a0.map enc)]=some (enc r):=by
 refine qx (f:=p455) rfl rfl rfl fun e hl he=>?_;have h0_0:e.at 0=V.isl (a0.map enc):=he 0 _ rfl;have hl_0:e.length=286:=hl;clear he hl;have h_0:=ai hl_0 h0_0;show W A b455 e ⟨[],0⟩ _;unfold F455 at hF;obtain⟨x1,gx1,hF⟩:=bS hF;have w2:ans A 140 [V.isl (a0.map enc)]=some (V.bool x1):=s140 a0 gx1;cases x1 with
 |true=>
  rw[if_pos rfl]at hF;cases hF;simp only[simprocAttr,R0,b455,h_0,w2];exact qg (by simp only[simprocAttr,R0,qh,p455,Rs.ev,qd,h_0,w2])
 |false=>
  rw[if_neg wE]at hF;obtain⟨x3,gx3,hF⟩:=bS hF;have w4:ans A 434 [V.isl (a0.map enc)]=some (V.tup [V.agg [V.int .i64 x3.a.Complex.Prime,V.isl (x3.a.Complex.Dims.map enc),V.isl (x3.a.Complex.Maps.map enc),V.isl (x3.a.Levels.map enc)],V.int .i64 x3.b,V.int .i64 x3.c,V.int .i64 x3.d]):=s434 a0 gx3;obtain⟨x5,gx5,hF⟩:=bS hF;have w6:ans A 151 [V.agg [V.int .i64 x3.a.Complex.Prime,V.isl (x3.a.Complex.Dims.map enc),V.isl (x3.a.Complex.Maps.map enc),V.isl (x3.a.Levels.map enc)],V.int .i64 x3.b,V.int .i64 x3.c,V.int .i64 x3.d]=some (V.tup [V.int .i64 x5.a,V.int .i64 x5.b]):=s151 x3.a x3.b x3.c x3.d gx5;obtain⟨x7,gx7,hF⟩:=bS hF;have w8:ans A 435 [V.agg [V.int .i64 x3.a.Complex.Prime,V.isl (x3.a.Complex.Dims.map enc),V.isl (x3.a.Complex.Maps.map enc),V.isl (x3.a.Levels.map enc)],V.int .i64 x3.b,V.int .i64 x3.c,V.int .i64 x3.d]=some (V.tup [V.int .i64 x7.a,V.int .i64 x7.b]):=s435 x3.a x3.b x3.c x3.d gx7;by_cases c9:x5.b=x7.b
  ·rw[if_pos c9]at hF
   by_cases c10:x5.a=x7.a
   ·rw[if_pos c10]at hF
    obtain⟨x11,gx11,hF⟩:=bS hF;have w12:ans A 152 [V.agg [V.int .i64 x3.a.Complex.Prime,V.isl (x3.a.Complex.Dims.map enc),V.isl (x3.a.Complex.Maps.map enc),V.isl (x3.a.Levels.map enc)],V.int .i64 x3.b,V.int .i64 x3.c,V.int .i64 x3.d]=some (V.tup [V.int .i64 x11.a,V.int .i64 x11.b]):=s152 x3.a x3.b x3.c x3.d gx11;obtain⟨x13,gx13,hF⟩:=bS hF;have w14:ans A 223 [V.agg [V.int .i64 x3.a.Complex.Prime,V.isl (x3.a.Complex.Dims.map enc),V.isl (x3.a.Complex.Maps.map enc),V.isl (x3.a.Levels.map enc)],V.int .i64 x3.b,V.int .i64 x3.c,V.int .i64 x3.d]=some (V.tup [V.int .i64 x13.a,V.int .i64 x13.b]):=s223 x3.a x3.b x3.c x3.d gx13;by_cases c15:x11.b=x13.b
    ·rw[if_pos c15]at hF
     by_cases c16:x11.a=x13.a
     ·rw[if_pos c16]at hF
      obtain⟨x17,gx17,hF⟩:=bS hF;have w18:ans A 436 [V.isl (a0.map enc)]=some (V.tup [V.agg [V.int .i64 x17.a.Complex.Prime,V.isl (x17.a.Complex.Dims.map enc),V.isl (x17.a.Complex.Maps.map enc),V.isl (x17.a.Levels.map enc)],V.int .i64 x17.b]):=s436 a0 gx17;obtain⟨x19,gx19,hF⟩:=bS hF;have w20:ans A 148 [V.agg [V.int .i64 x17.a.Complex.Prime,V.isl (x17.a.Complex.Dims.map enc),V.isl (x17.a.Complex.Maps.map enc),V.isl (x17.a.Levels.map enc)],V.int .i64 x17.b]=some (V.tup [V.isl (x19.a.map enc),V.int .i64 x19.b]):=s148 x17.a x17.b gx19;obtain⟨x21,gx21,hF⟩:=bS hF;have w22:ans A 234 [V.agg [V.int .i64 x17.a.Complex.Prime,V.isl (x17.a.Complex.Dims.map enc),V.isl (x17.a.Complex.Maps.map enc),V.isl (x17.a.Levels.map enc)],V.int .i64 x17.b]=some (V.tup [V.isl (x21.a.map enc),V.int .i64 x21.b]):=s234 x17.a x17.b gx21;by_cases c23:x19.b=x21.b
      ·rw[if_pos c23]at hF
       obtain⟨x24,gx24,hF⟩:=bS hF;have w25:ans A 160 [V.isl (x19.a.map enc),V.isl (x21.a.map enc)]=some (V.bool x24):=s160 x19.a x21.a gx24;cases x24 with
       |true=>
        rw[if_pos rfl]at hF;obtain⟨x26,gx26,hF⟩:=bS hF;have w27:ans A 437 [V.isl (a0.map enc)]=some (V.tup [V.agg [V.int .i64 x26.a.Complex.Prime,V.isl (x26.a.Complex.Dims.map enc),V.isl (x26.a.Complex.Maps.map enc),V.isl (x26.a.Levels.map enc)],V.int .i64 x26.b,V.int .i64 x26.c]):=s437 a0 gx26;obtain⟨x28,gx28,hF⟩:=bS hF;have w29:ans A 438 [V.agg [V.int .i64 x26.a.Complex.Prime,V.isl (x26.a.Complex.Dims.map enc),V.isl (x26.a.Complex.Maps.map enc),V.isl (x26.a.Levels.map enc)],V.int .i64 x26.b,V.int .i64 x26.c]=some (V.tup [V.int .i64 x28.a,V.int .i64 x28.b]):=s438 x26.a x26.b x26.c gx28;obtain⟨x30,gx30,hF⟩:=bS hF;have w31:ans A 439 [V.agg [V.int .i64 x26.a.Complex.Prime,V.isl (x26.a.Complex.Dims.map enc),V.isl (x26.a.Complex.Maps.map enc),V.isl (x26.a.Levels.map enc)],V.int .i64 x26.b,V.int .i64 x26.c]=some (V.tup [V.int .i64 x30.a,V.int .i64 x30.b]):=s439 x26.a x26.b x26.c gx30;by_cases c32:x28.b=x30.b
        ·rw[if_pos c32]at hF
         by_cases c33:x28.a=x30.a
         ·rw[if_pos c33]at hF
          by_cases c34:x19.b=0
          ·rw[if_pos c34]at hF
           obtain⟨x35,gx35,hF⟩:=bS hF;have w36:ans A 400 [(eC x17.a.Complex)]=some (V.tup [V.int .i64 x35.a,V.int .i64 x35.b]):=s400 x17.a.Complex gx35;obtain⟨zv30_1,gt53,hF⟩:=bS hF;simp only[simprocAttr,R0,b455,h_0,w2,w4,w6,w8,eq_true c9,eq_true c10,w12,w14,eq_true c15,eq_true c16,w18,w20,w22,eq_true c23,w25,w27,w29,w31,eq_true c32,eq_true c33,eq_true c34,w36];refine W.mono (l455_1 x3 x5 x11 x17 x19 x26 x28 x35 gt53 (ei _ (ai rfl ?_))) ?_
           ·simp only[simprocAttr,R0,h_0,w2,w4,w6,w8,eq_true c9,eq_true c10,w12,w14,eq_true c15,eq_true c16,w18,w20,w22,eq_true c23,w25,w27,w29,w31,eq_true c32,eq_true c33,eq_true c34,w36]
           rintro _ e _ ⟨rfl,k38,rfl,h_39⟩;by_cases c54:x35.b=0
           ·rw[if_pos c54]at hF
            by_cases c55:zv30_1=x35.a
            ·rw[if_pos c55]at hF
             simp only[simprocAttr,R0,h_39,eq_true c9,eq_true c10,eq_true c15,eq_true c16,eq_true c23,eq_true c32,eq_true c33,eq_true c34,eq_true c54,eq_true c55];refine k455_1_3 _ x3.a.Complex.Prime x3.a.Complex.Dims x3.a.Complex.Maps x3.a.Levels x3.b x3.c x3.d x5.a x5.b x11.a x11.b x26.a.Complex.Prime x26.a.Complex.Dims x26.a.Complex.Maps x26.a.Levels x26.b x28.b hF ?_;simp only[simprocAttr,R0,h_39,eq_true c9,eq_true c10,eq_true c15,eq_true c16,eq_true c23,eq_true c32,eq_true c33,eq_true c34,eq_true c54,eq_true c55]
            ·rw[if_neg c55]at hF
             cases hF;simp only[simprocAttr,R0,h_39,eq_true c9,eq_true c10,eq_true c15,eq_true c16,eq_true c23,eq_true c32,eq_true c33,eq_true c34,eq_true c54,eq_false c55];exact qg (by simp only[simprocAttr,R0,qh,p455,Rs.ev,qd,h_39,eq_true c9,eq_true c10,eq_true c15,eq_true c16,eq_true c23,eq_true c32,eq_true c33,eq_true c34,eq_true c54,eq_false c55])
           ·rw[if_neg c54]at hF
            cases hF;simp only[simprocAttr,R0,h_39,eq_true c9,eq_true c10,eq_true c15,eq_true c16,eq_true c23,eq_true c32,eq_true c33,eq_true c34,eq_false c54];exact qg (by simp only[simprocAttr,R0,qh,p455,Rs.ev,qd,h_39,eq_true c9,eq_true c10,eq_true c15,eq_true c16,eq_true c23,eq_true c32,eq_true c33,eq_true c34,eq_false c54])
          ·rw[if_neg c34]at hF
           simp only[simprocAttr,R0,b455,h_0,w2,w4,w6,w8,eq_true c9,eq_true c10,w12,w14,eq_true c15,eq_true c16,w18,w20,w22,eq_true c23,w25,w27,w29,w31,eq_true c32,eq_true c33,eq_false c34];refine k455_1_3 _ x3.a.Complex.Prime x3.a.Complex.Dims x3.a.Complex.Maps x3.a.Levels x3.b x3.c x3.d x5.a x5.b x11.a x11.b x26.a.Complex.Prime x26.a.Complex.Dims x26.a.Complex.Maps x26.a.Levels x26.b x28.b hF ?_;simp only[simprocAttr,R0,h_0,w2,w4,w6,w8,eq_true c9,eq_true c10,w12,w14,eq_true c15,eq_true c16,w18,w20,w22,eq_true c23,w25,w27,w29,w31,eq_true c32,eq_true c33,eq_false c34]
         ·rw[if_neg c33]at hF
          cases hF;simp only[simprocAttr,R0,b455,h_0,w2,w4,w6,w8,eq_true c9,eq_true c10,w12,w14,eq_true c15,eq_true c16,w18,w20,w22,eq_true c23,w25,w27,w29,w31,eq_true c32,eq_false c33];exact qg (by simp only[simprocAttr,R0,qh,p455,Rs.ev,qd,h_0,w2,w4,w6,w8,eq_true c9,eq_true c10,w12,w14,eq_true c15,eq_true c16,w18,w20,w22,eq_true c23,w25,w27,w29,w31,eq_true c32,eq_false c33])
        ·rw[if_neg c32]at hF
         cases hF;simp only[simprocAttr,R0,b455,h_0,w2,w4,w6,w8,eq_true c9,eq_true c10,w12,w14,eq_true c15,eq_true c16,w18,w20,w22,eq_true c23,w25,w27,w29,w31,eq_false c32];exact qg (by simp only[simprocAttr,R0,qh,p455,Rs.ev,qd,h_0,w2,w4,w6,w8,eq_true c9,eq_true c10,w12,w14,eq_true c15,eq_true c16,w18,w20,w22,eq_true c23,w25,w27,w29,w31,eq_false c32])
       |false=>
        rw[if_neg wE]at hF;cases hF;simp only[simprocAttr,R0,b455,h_0,w2,w4,w6,w8,eq_true c9,eq_true c10,w12,w14,eq_true c15,eq_true c16,w18,w20,w22,eq_true c23,w25];exact qg (by simp only[simprocAttr,R0,qh,p455,Rs.ev,qd,h_0,w2,w4,w6,w8,eq_true c9,eq_true c10,w12,w14,eq_true c15,eq_true c16,w18,w20,w22,eq_true c23,w25])
      ·rw[if_neg c23]at hF
       cases hF;simp only[simprocAttr,R0,b455,h_0,w2,w4,w6,w8,eq_true c9,eq_true c10,w12,w14,eq_true c15,eq_true c16,w18,w20,w22,eq_false c23];exact qg (by simp only[simprocAttr,R0,qh,p455,Rs.ev,qd,h_0,w2,w4,w6,w8,eq_true c9,eq_true c10,w12,w14,eq_true c15,eq_true c16,w18,w20,w22,eq_false c23])
     ·rw[if_neg c16]at hF
      cases hF;simp only[simprocAttr,R0,b455,h_0,w2,w4,w6,w8,eq_true c9,eq_true c10,w12,w14,eq_true c15,eq_false c16];exact qg (by simp only[simprocAttr,R0,qh,p455,Rs.ev,qd,h_0,w2,w4,w6,w8,eq_true c9,eq_true c10,w12,w14,eq_true c15,eq_false c16])
    ·rw[if_neg c15]at hF
     cases hF;simp only[simprocAttr,R0,b455,h_0,w2,w4,w6,w8,eq_true c9,eq_true c10,w12,w14,eq_false c15];exact qg (by simp only[simprocAttr,R0,qh,p455,Rs.ev,qd,h_0,w2,w4,w6,w8,eq_true c9,eq_true c10,w12,w14,eq_false c15])
   ·rw[if_neg c10]at hF
    cases hF;simp only[simprocAttr,R0,b455,h_0,w2,w4,w6,w8,eq_true c9,eq_false c10];exact qg (by simp only[simprocAttr,R0,qh,p455,Rs.ev,qd,h_0,w2,w4,w6,w8,eq_true c9,eq_false c10])
  ·rw[if_neg c9]at hF
   cases hF;simp only[simprocAttr,R0,b455,h_0,w2,w4,w6,w8,eq_false c9];exact qg (by simp only[simprocAttr,R0,qh,p455,Rs.ev,qd,h_0,w2,w4,w6,w8,eq_false c9])
end
end Rv
