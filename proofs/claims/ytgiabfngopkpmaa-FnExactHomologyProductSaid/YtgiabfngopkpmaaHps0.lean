/- What the abstract code answers: typed functions, part 1. -/
import Derived.Test.YtgiabfngopkpmaaHpp
namespace Rv
theorem ai{a b:Prop}(x:a)(y:b):a∧b:=⟨x,y⟩
theorem ei.{u}{α:Sort u}{p:α→Prop}(w:α)(h:p w):∃x,p x:=⟨w,h⟩
set_option linter.unusedVariables false
set_option linter.unusedSimpArgs false
set_option maxRecDepth 100000
noncomputable section
abbrev eC(x:GComplex):V:=V.agg [V.int .i64 x.Prime,V.isl (x.Dims.map Enc.enc),V.isl (x.Maps.map Enc.enc)]
abbrev eF(x:GFiltered):V:=V.agg [V.int .i64 x.Complex.Prime,V.isl (x.Complex.Dims.map Enc.enc),V.isl (x.Complex.Maps.map Enc.enc),V.isl (x.Levels.map Enc.enc)]
theorem R1:type_of%(ai RR (ai RB (ai RZ (ai @ii_eq <|ai @nn_eq <|ai @oM_e <|ai @oL_e <|ai @oS_e <|ai @oF_e <|ai @oB_e <|ai @oC_e <|ai @oI_e <|ai @oN_e <|ai @oP_e <|ai @oQ_e <|ai @oR_e <|ai @oU_e <|ai @opEv.eq_1 <|ai @opEv.eq_2 <|ai @opEv.eq_3 <|ai @opEv.eq_4 <|ai @opEv.eq_5 <|ai @opEv.eq_6 <|ai @opEv.eq_7 <|ai @opEv.eq_8 <|ai @opEv.eq_9 <|ai @opEv.eq_10 <|ai @opEv.eq_11 <|ai @opEv.eq_12 <|ai @opEv.eq_13 <|ai @opEv.eq_14 <|ai @opEv.eq_15 <|ai @opEv.eq_16 <|ai @opEv.eq_17 <|ai @opEv.eq_18 <|ai @opEv.eq_19 <|ai @opEv.eq_20 <|ai @opEv.eq_21 <|ai @opEv.eq_22 <|ai @opEv.eq_23 <|ai @opEv.eq_24 <|ai @opEv.eq_25 <|ai @opEv.eq_26 <|ai @opEv.eq_27 <|ai @opEv.eq_28 <|ai @opEv.eq_29 <|ai @opEv.eq_30 <|ai @opEv.eq_31 <|ai @opEv.eq_32 <|ai @opEv.eq_33 <|ai @opEv.eq_34 <|ai @opEv.eq_35 <|ai @opEv.eq_36 <|ai @opEv.eq_37 <|ai @fillV.eq_1 <|ai @fillV.eq_2 <|ai @mapO.eq_1 <|ai @mapO.eq_2 <|ai @mapS.eq_1 <| @mapS.eq_2)))):=ai RR (ai RB (ai RZ (ai @ii_eq <|ai @nn_eq <|ai @oM_e <|ai @oL_e <|ai @oS_e <|ai @oF_e <|ai @oB_e <|ai @oC_e <|ai @oI_e <|ai @oN_e <|ai @oP_e <|ai @oQ_e <|ai @oR_e <|ai @oU_e <|ai @opEv.eq_1 <|ai @opEv.eq_2 <|ai @opEv.eq_3 <|ai @opEv.eq_4 <|ai @opEv.eq_5 <|ai @opEv.eq_6 <|ai @opEv.eq_7 <|ai @opEv.eq_8 <|ai @opEv.eq_9 <|ai @opEv.eq_10 <|ai @opEv.eq_11 <|ai @opEv.eq_12 <|ai @opEv.eq_13 <|ai @opEv.eq_14 <|ai @opEv.eq_15 <|ai @opEv.eq_16 <|ai @opEv.eq_17 <|ai @opEv.eq_18 <|ai @opEv.eq_19 <|ai @opEv.eq_20 <|ai @opEv.eq_21 <|ai @opEv.eq_22 <|ai @opEv.eq_23 <|ai @opEv.eq_24 <|ai @opEv.eq_25 <|ai @opEv.eq_26 <|ai @opEv.eq_27 <|ai @opEv.eq_28 <|ai @opEv.eq_29 <|ai @opEv.eq_30 <|ai @opEv.eq_31 <|ai @opEv.eq_32 <|ai @opEv.eq_33 <|ai @opEv.eq_34 <|ai @opEv.eq_35 <|ai @opEv.eq_36 <|ai @opEv.eq_37 <|ai @fillV.eq_1 <|ai @fillV.eq_2 <|ai @mapO.eq_1 <|ai @mapO.eq_2 <|ai @mapS.eq_1 <| @mapS.eq_2)))
theorem R0:type_of%(ai R1 RE):=ai R1 RE
def F30_1_B(a0:List Int)(a1:List Int)(v5_1:Int)(s:Unit):Option ((Unit)⊕((Unit)⊕Bool)):=
 (getI a0 v5_1).bind fun x5=>
(getI a1 v5_1).bind fun x7=>
if x5=x7 then
 some (.inl ())
else
 some (.inr (.inr false))
def F30_1_D(a0:List Int)(a1:List Int)(v5_1:Int)(s:Unit):Option ((Unit)⊕Bool):=
 some (.inl ())
def F30(a0:List Int)(a1:List Int):Option Bool:=
 if(a0.length:Int)=(a1.length:Int)then
  (forR 0 (a0.length:Int) (F30_1_B a0 a1) (F30_1_D a0 a1) ()).bind fun t10=> match t10 with
   | .inl _=>
    some true
   | .inr r11=> some r11
 else
  some false
def I30_1(a0:List Int)(a1:List Int)(v5_1:Int)(s:Unit)(e:Env)(h:Heap):Prop:=
 ∃k3:Nat,h=⟨[],k3⟩∧e.length=26∧e.at 0=V.isl (a0.map Enc.enc)∧e.at 1=V.isl (a1.map Enc.enc)∧e.at 5=V.int .i64 v5_1
def P30_1(a0:List Int)(a1:List Int)(t:(Unit)⊕Bool)(x:Ex)(e:Env)(h:Heap):Prop:=
 match t with
 | .inl _=> x= .normal∧∃k3:Nat,h=⟨[],k3⟩∧e.length=26
 | .inr r=> x= .ret∧Fin p30 (Enc.enc r) .ret e h
theorem l30_1(a0:List Int)(a1:List Int){lo:Int}{s:Unit}{t:(Unit)⊕Bool}(hF:forR lo (a0.length:Int) (F30_1_B a0 a1) (F30_1_D a0 a1) s=some t){e:Env}{h:Heap}(hI:I30_1 a0 a1 lo s e h):W A c30_1 e h (P30_1 a0 a1 t):=by
 show W A (.block 0 (.loop false b30_1)) e h _;rw[W_block];refine W_forR hF 0 (by obtain⟨_,rfl,_⟩:=hI; rfl) (I30_1 a0 a1) hI ?_ ?_
 ·rintro v5_1 _ e h ⟨k3,rfl,h_2⟩ hlt hw o ho
  unfold F30_1_B at ho;obtain⟨x5,gx5,ho⟩:=bS ho;obtain⟨w6a,w6b⟩:=getI_w gx5;obtain⟨x7,gx7,ho⟩:=bS ho;obtain⟨w8a,w8b⟩:=getI_w gx7;by_cases c9:x5=x7
  ·rw[if_pos c9]at ho
   cases ho;simp only[simprocAttr,R0,b30_1,h_2,eq_true hlt,hw,w6a,w6b,w8a,w8b,eq_true c9];refine ai rfl (ei _ (ai rfl ?_));simp only[simprocAttr,R0,h_2,eq_true hlt,hw,w6a,w6b,w8a,w8b,eq_true c9]
  ·rw[if_neg c9]at ho
   cases ho;simp only[simprocAttr,R0,b30_1,h_2,eq_true hlt,hw,w6a,w6b,w8a,w8b,eq_false c9];intro ht; subst ht;simp only[simprocAttr,RR,RB];exact ai rfl (fin_ret (by simp only[simprocAttr,R0,fn_out,p30,Rs.ev,take_len_self,h_2,eq_true hlt,hw,w6a,w6b,w8a,w8b,eq_false c9]))
 ·rintro v5_1 _ e h ⟨k3,rfl,h_2⟩ hge t1 ho
  unfold F30_1_D at ho;cases ho;simp only[simprocAttr,R0,b30_1,h_2,eq_false hge];intro ht; subst ht;refine ai rfl (ei _ (ai rfl ?_));simp only[simprocAttr,R0,h_2,eq_false hge]
theorem s30(a0:List Int)(a1:List Int){r:Bool}(hF:F30 a0 a1=some r):ans A 30 [V.isl (a0.map Enc.enc),V.isl (a1.map Enc.enc)]=some (Enc.enc r):=by
 refine ans_of (f:=p30) rfl rfl rfl fun e hl he=>?_;have h0_0:e.at 0=V.isl (a0.map Enc.enc):=he 0 _ rfl;have h1_0:e.at 1=V.isl (a1.map Enc.enc):=he 1 _ rfl;have hl_0:e.length=26:=hl;clear he hl;have h_0:=ai hl_0 (ai h0_0 h1_0);show W A b30 e ⟨[],0⟩ _;unfold F30 at hF;by_cases c1:(a0.length:Int)=(a1.length:Int)
 ·rw[if_pos c1]at hF
  obtain⟨t10,gt10,hF⟩:=bS hF;rcases t10 with _|r11
  ·dsimp only at hF
   simp only[simprocAttr,R0,b30,h_0,eq_true c1];refine W.mono (l30_1 a0 a1 gt10 (ei _ (ai rfl ?_))) ?_
   ·simp only[simprocAttr,R0,h_0,eq_true c1]
   rintro _ e _ ⟨rfl,k3,rfl,hl_4⟩;cases hF;simp only[simprocAttr,R0,hl_4,eq_true c1];exact fin_ret (by simp only[simprocAttr,R0,fn_out,p30,Rs.ev,take_len_self,hl_4,eq_true c1])
  ·dsimp only at hF
   cases hF;simp only[simprocAttr,R0,b30,h_0,eq_true c1];refine W.mono (l30_1 a0 a1 gt10 (ei _ (ai rfl ?_))) ?_
   ·simp only[simprocAttr,R0,h_0,eq_true c1]
   rintro _ e h ⟨rfl,hq⟩;simp only[simprocAttr,RR,RB];exact hq
 ·rw[if_neg c1]at hF
  cases hF;simp only[simprocAttr,R0,b30,h_0,eq_false c1];exact fin_ret (by simp only[simprocAttr,R0,fn_out,p30,Rs.ev,take_len_self,h_0,eq_false c1])
def F31_1_B(i:Int)(s:List Int×Int):Option ((List Int×Int)⊕(List Int×Int)):=
 (setI s.1 i s.2).bind fun l=>(chk (s.2+1)).bind fun k=> some (.inl (l,k))
def F31_1_D(i:Int)(s:List Int×Int):Option (List Int×Int):=some s
def F31(l:List Int)(k:Int):Option (List Int×Int):=forR 0 (l.length:Int) F31_1_B F31_1_D (l,k)
def FM31(x:List Int)(k:Int):Option ((List Int)×Int):=F31 x k
theorem d31{l:List Int}{k:Int}{r:List Int×Int}(hF:F31 l k=some r)(h:Heap){v:V}{K:Ks}(hr:Deep.rep h v l K):
  ∃h',res A 31 [v,V.int .i64 k] h=some (V.int .i64 r.2,h')∧Deep.rep h' v r.1 K∧(∀k,¬K k→h'.ents[k]? =h.ents[k]?)∧h'.ents.length=h.ents.length:=by
 refine res_ex (f:=p31) rfl rfl rfl fun e hl he=>?_;have h0_0:e.at 0=v:=he 0 _ rfl;have h1_0:e.at 1=V.int .i64 k:=he 1 _ rfl;have hl_0:e.length=19:=hl;clear he hl;show W A b31 e h _;unfold F31 at hF;obtain⟨E,c⟩:=h;simp only[simprocAttr, -Int.reduceNatCast',R1,b31,hl_0,h0_0,h1_0];show W A (.block 0 (.loop true b31_1)) _ _ _;rw[W_block];refine W_forR hF _ rfl (fun i s e h=> Deep.rep h v s.1 K∧(∀k,¬K k→h.ents[k]? =E[k]?)∧h.ents.length=E.length∧s.1.length=l.length∧e.length=19∧e.at 0=v∧e.at 1=V.int .i64 s.2∧e.at 5=V.int .i64 i) ?_ ?_ ?_
 ·refine⟨hr,fun _ _=> rfl,rfl,rfl,?_⟩
  simp only[simprocAttr, -Int.reduceNatCast',R1,hl_0,h0_0,h1_0]
 ·clear hl_0 h0_0 h1_0
  rintro i ⟨s,q⟩ e ⟨E3,c3⟩ ⟨q1,q2,q3,q4,hl_1,h0_1,h1_1,h5_1⟩ hlt hw oo ho;unfold F31_1_B at ho;simp only at ho q1 q2 q3 q4 h1_1;obtain⟨s2,gs,ho⟩:=bS ho;obtain⟨s1,s2',s3,s4,s5⟩:=setI_w gs;obtain⟨k2,gk,ho⟩:=bS ho;have wk:=chk_w gk;have hE:=Option.some.inj ho; subst hE;rcases row_int q1 with⟨_,rfl,_⟩|⟨key3,uid3,hx2,d1,d2⟩
  ·simp at s2'; omega
  simp only at d1;have s5':List.take i.toNat (s.map Enc.enc)++[V.int .i64 q]++List.drop (i.toNat+1) (s.map Enc.enc)=List.map Enc.enc s2:=s5;rw[q4]at s3;simp only[simprocAttr, -Int.reduceNatCast',R1,b31_1,hl_1,h0_1,h1_1,h5_1,eq_true hlt,hw,hx2,q4,d1,s1,s3,s5',wk];have hk3:key3 < E3.length:=(List.getElem?_eq_some_iff.1 d1).1;have hsl:s2.length=l.length:=by rw[s4]; exact q4
  refine ai rfl ⟨?_,fun k nk=>?_,by rw[←q3]; simp,hsl,?_⟩
  ·rw[←hsl]; exact int_row (set_app_key hk3) d2
  ·exact(set_ne (fun e=> nk ((d2 k).2 e))).trans (q2 k nk)
  ·simp only[simprocAttr, -Int.reduceNatCast',R1,hl_1,h0_1,h1_1,h5_1,hw,hx2,q4]
 ·clear hl_0 h0_0 h1_0
  rintro i ⟨s,q⟩ e ⟨E3,c3⟩ ⟨q1,q2,q3,q4,hl_1,h0_1,h1_1,h5_1⟩ hge t1 ho;have hE:=Option.some.inj ho; subst hE;have hlen:=rep_len q1;simp only at hlen q1 q2 q3 q4 h1_1;simp only[simprocAttr, -Int.reduceNatCast',R1,b31_1,hl_1,h0_1,h1_1,h5_1,hlen,q4,eq_false hge];intro ht; subst ht;refine ai (fun _=> trivial) ⟨?_,q1,q2,q3⟩;simp only[simprocAttr, -Int.reduceNatCast',R1,fn_out,p31,Rs.ev,mapO,hl_1]
theorem dm31{x:List Int}{k:Int}{r:(List Int)×Int}(hF:FM31 x k=some r)(h:Heap){v:V}{K:Ks}(hr:Deep.rep h v x K):∃h',res A 31 [v,V.int .i64 k] h=some (V.int .i64 r.2,h')∧Deep.rep h' v r.1 K∧(∀k,k < h.ents.length→¬K k→h'.ents[k]? =h.ents[k]?)∧h.ents.length≤h'.ents.length:=by
 obtain⟨h',w,q1,q2,q3⟩:=d31 hF h hr;exact⟨h',w,q1,fun k _ nk=> q2 k nk,by omega⟩
def F32_1_B(a0:List Int)(v5_1:Int)(v1_1:Int):Option ((Int)⊕((Int)⊕Int)):=
 (getI a0 v5_1).bind fun x4=>
if x4=v1_1 then
 (chk (v1_1+1)).bind fun x7=>
 some (.inl x7)
else
 some (.inr (.inr (-1)))
def F32_1_D(a0:List Int)(v5_1:Int)(v1_1:Int):Option ((Int)⊕Int):=
 some (.inl v1_1)
def F32(a0:List Int)(a1:Int):Option Int:=
 (forR 0 (a0.length:Int) (F32_1_B a0) (F32_1_D a0) a1).bind fun t8=> match t8 with
  | .inl zv1_1=>
   some zv1_1
  | .inr r9=> some r9
def I32_1(a0:List Int)(v5_1:Int)(v1_1:Int)(e:Env)(h:Heap):Prop:=
 ∃k2:Nat,h=⟨[],k2⟩∧e.length=21∧e.at 0=V.isl (a0.map Enc.enc)∧e.at 1=V.int .i64 v1_1∧e.at 5=V.int .i64 v5_1
def P32_1(a0:List Int)(t:(Int)⊕Int)(x:Ex)(e:Env)(h:Heap):Prop:=
 match t with
 | .inl zv1_1=> x= .normal∧∃k2:Nat,h=⟨[],k2⟩∧e.length=21∧e.at 1=V.int .i64 zv1_1
 | .inr r=> x= .ret∧Fin p32 (Enc.enc r) .ret e h
theorem l32_1(a0:List Int){lo:Int}{s:Int}{t:(Int)⊕Int}(hF:forR lo (a0.length:Int) (F32_1_B a0) (F32_1_D a0) s=some t){e:Env}{h:Heap}(hI:I32_1 a0 lo s e h):W A c32_1 e h (P32_1 a0 t):=by
 show W A (.block 0 (.loop false b32_1)) e h _;rw[W_block];refine W_forR hF 0 (by obtain⟨_,rfl,_⟩:=hI; rfl) (I32_1 a0) hI ?_ ?_
 ·rintro v5_1 v1_1 e h ⟨k2,rfl,h_1⟩ hlt hw o ho
  unfold F32_1_B at ho;obtain⟨x4,gx4,ho⟩:=bS ho;obtain⟨w5a,w5b⟩:=getI_w gx4;by_cases c6:x4=v1_1
  ·rw[if_pos c6]at ho
   obtain⟨x7,gx7,ho⟩:=bS ho;have wx7:=chk_w gx7;cases ho;simp only[simprocAttr,R0,b32_1,h_1,eq_true hlt,hw,w5a,w5b,eq_true c6,wx7];refine ai rfl (ei _ (ai rfl ?_));simp only[simprocAttr,R0,h_1,eq_true hlt,hw,w5a,w5b,eq_true c6,wx7]
  ·rw[if_neg c6]at ho
   cases ho;simp only[simprocAttr,R0,b32_1,h_1,eq_true hlt,hw,w5a,w5b,eq_false c6];intro ht; subst ht;simp only[simprocAttr,RR,RB];exact ai rfl (fin_ret (by simp only[simprocAttr,R0,fn_out,p32,Rs.ev,take_len_self,h_1,eq_true hlt,hw,w5a,w5b,eq_false c6]))
 ·rintro v5_1 v1_1 e h ⟨k2,rfl,h_1⟩ hge t1 ho
  unfold F32_1_D at ho;cases ho;simp only[simprocAttr,R0,b32_1,h_1,eq_false hge];intro ht; subst ht;refine ai rfl (ei _ (ai rfl ?_));simp only[simprocAttr,R0,h_1,eq_false hge]
theorem s32(a0:List Int)(a1:Int){r:Int}(hF:F32 a0 a1=some r):ans A 32 [V.isl (a0.map Enc.enc),V.int .i64 a1]=some (Enc.enc r):=by
 refine ans_of (f:=p32) rfl rfl rfl fun e hl he=>?_;have h0_0:e.at 0=V.isl (a0.map Enc.enc):=he 0 _ rfl;have h1_0:e.at 1=V.int .i64 a1:=he 1 _ rfl;have hl_0:e.length=21:=hl;clear he hl;have h_0:=ai hl_0 (ai h0_0 h1_0);show W A b32 e ⟨[],0⟩ _;unfold F32 at hF;obtain⟨t8,gt8,hF⟩:=bS hF;rcases t8 with zv1_1|r9
 ·dsimp only at hF
  simp only[simprocAttr,R0,b32,h_0];refine W.mono (l32_1 a0 gt8 (ei _ (ai rfl ?_))) ?_
  ·simp only[simprocAttr,R0,h_0]
  rintro _ e _ ⟨rfl,k2,rfl,h_3⟩;cases hF;simp only[simprocAttr,R0,h_3];exact fin_ret (by simp only[simprocAttr,R0,fn_out,p32,Rs.ev,take_len_self,h_3])
 ·dsimp only at hF
  cases hF;simp only[simprocAttr,R0,b32,h_0];refine W.mono (l32_1 a0 gt8 (ei _ (ai rfl ?_))) ?_
  ·simp only[simprocAttr,R0,h_0]
  rintro _ e h ⟨rfl,hq⟩;simp only[simprocAttr,RR,RB];exact hq
def F253_1_B(a0:Ar .i64 8)(v4_1:Int)(o2_1:(List Int)):Option (((List Int))⊕((List Int))):=
 (ixI 8 v4_1).bind fun n4=>
(some (arW 8 o2_1 n4 (a0.val.getD n4 0))).bind fun l7=>
some (.inl l7)
def F253_1_D(a0:Ar .i64 8)(v4_1:Int)(o2_1:(List Int)):Option ((List Int)):=
 some o2_1
def F253(a0:Ar .i64 8):Option (Ar .i64 8):=
 (forR 0 8 (F253_1_B a0) (F253_1_D a0) ([]:(List Int))).bind fun zo2_1=>
 some ⟨zo2_1⟩
def I253_1(a0:Ar .i64 8)(v4_1:Int)(o2_1:(List Int))(e:Env)(h:Heap):Prop:=
 ∃k2:Nat,h=⟨[(0,none),(1,some (arc .i64 8 [])),(2,some (arc .i64 8 o2_1))],k2⟩∧e.length=15∧e.at 1=V.iptr (arc .i64 8 a0.val)∧e.at 2=V.ptr 1 1 0∧e.at 3=V.ptr 2 2 0∧e.at 4=V.int .i64 v4_1
def P253_1(a0:Ar .i64 8)(zo2_1:(List Int))(x:Ex)(e:Env)(h:Heap):Prop:=
 x= .normal∧∃k2:Nat,h=⟨[(0,none),(1,some (arc .i64 8 [])),(2,some (arc .i64 8 zo2_1))],k2⟩∧e.length=15∧e.at 2=V.ptr 1 1 0∧e.at 3=V.ptr 2 2 0
theorem l253_1(a0:Ar .i64 8){lo:Int}{s:(List Int)}{t:(List Int)}(hF:forR lo 8 (F253_1_B a0) (F253_1_D a0) s=some t){e:Env}{h:Heap}(hI:I253_1 a0 lo s e h):W A c253_1 e h (P253_1 a0 t):=by
 show W A (.block 0 (.loop false b253_1)) e h _;rw[W_block];refine W_forR hF 3 (by obtain⟨_,rfl,_⟩:=hI; rfl) (I253_1 a0) hI ?_ ?_
 ·rintro v4_1 o2_1 e h ⟨k2,rfl,h_1⟩ hlt hw o ho
  unfold F253_1_B at ho;obtain⟨n4,gn4,ho⟩:=bS ho;obtain⟨w5a,w5b,w5c,w5d⟩:=ixI_w gn4;have w6:ofCells none (List.drop n4 (arc .i64 8 a0.val))=some (V.int .i64 (a0.val.getD n4 0)):=by first|exact arc_one' (i:=n4) (by omega) (by omega)|(simp only[List.drop_drop]; exact arc_one' (i:=n4) (by omega) (by omega))|(show ofCells none (List.drop 0 _)=_; exact arc_one' (i:=n4) (by omega) (by omega))
  obtain⟨l7,gl7,ho⟩:=bS ho;have w8:List.take n4 (arc .i64 8 o2_1)++[V.int .i64 (a0.val.getD n4 0)]++List.drop (n4+1) (arc .i64 8 o2_1)=arc .i64 8 l7:=by rw[←Option.some.inj gl7]; exact arc_set (by omega)
  have w8l:n4+1≤8:=by omega
  cases ho;simp only[simprocAttr,R0,b253_1,h_1,eq_true hlt,hw,w5a,w5b,w5c,w6,w8,eq_true w8l];refine ai rfl (ei _ (ai rfl ?_));simp only[simprocAttr,R0,h_1,eq_true hlt,hw,w5a,w5b,w5c,w6,w8,eq_true w8l]
 ·rintro v4_1 o2_1 e h ⟨k2,rfl,h_1⟩ hge t1 ho
  unfold F253_1_D at ho;cases ho;simp only[simprocAttr,R0,b253_1,h_1,eq_false hge];intro ht; subst ht;refine ai rfl (ei _ (ai rfl ?_));simp only[simprocAttr,R0,h_1,eq_false hge]
theorem s253(a0:Ar .i64 8){r:Ar .i64 8}(hF:F253 a0=some r):ans A 253 [V.agg (arc .i64 8 a0.val)]=some (Enc.enc r):=by
 refine ans_of (f:=p253) rfl rfl rfl fun e hl he=>?_;have h0_0:e.at 0=V.agg (arc .i64 8 a0.val):=he 0 _ rfl;have hl_0:e.length=15:=hl;clear he hl;show W A b253 e ⟨[],0⟩ _;unfold F253 at hF;obtain⟨zo2_1,gt9,hF⟩:=bS hF;simp only[simprocAttr,R0,b253,hl_0,h0_0,(show [V.int .i64 0,V.int .i64 0,V.int .i64 0,V.int .i64 0,V.int .i64 0,V.int .i64 0,V.int .i64 0,V.int .i64 0]=arc .i64 8 [] from rfl)];refine W.mono (l253_1 a0 gt9 (ei _ (ai rfl ?_))) ?_
 ·simp only[simprocAttr,R0,hl_0,h0_0,(show [V.int .i64 0,V.int .i64 0,V.int .i64 0,V.int .i64 0,V.int .i64 0,V.int .i64 0,V.int .i64 0,V.int .i64 0]=arc .i64 8 [] from rfl)]
 rintro _ e _ ⟨rfl,k2,rfl,h_3⟩;have w12:List.drop 8 (arc .i64 8 [])=[]:=List.drop_eq_nil_of_le (by rw[arc_len]; exact Nat.le_refl _);cases hF;simp only[simprocAttr,R0,h_3,w12,List.append_nil];exact fin_ret (by simp only[simprocAttr,R0,fn_out,p253,Rs.ev,take_len_self,h_3,w12,List.append_nil])
def F291_1_B(a0:Ar .u8 8)(v4_1:Int)(o2_1:(List Int)):Option (((List Int))⊕((List Int))):=
 (ixI 8 v4_1).bind fun n4=>
(some (arW 8 o2_1 n4 (a0.val.getD n4 0))).bind fun l7=>
some (.inl l7)
def F291_1_D(a0:Ar .u8 8)(v4_1:Int)(o2_1:(List Int)):Option ((List Int)):=
 some o2_1
def F291(a0:Ar .u8 8):Option (Ar .u8 8):=
 (forR 0 8 (F291_1_B a0) (F291_1_D a0) ([]:(List Int))).bind fun zo2_1=>
 some ⟨zo2_1⟩
def I291_1(a0:Ar .u8 8)(v4_1:Int)(o2_1:(List Int))(e:Env)(h:Heap):Prop:=
 ∃k2:Nat,h=⟨[(0,none),(1,some (arc .u8 8 [])),(2,some (arc .u8 8 o2_1))],k2⟩∧e.length=15∧e.at 1=V.iptr (arc .u8 8 a0.val)∧e.at 2=V.ptr 1 1 0∧e.at 3=V.ptr 2 2 0∧e.at 4=V.int .i64 v4_1
def P291_1(a0:Ar .u8 8)(zo2_1:(List Int))(x:Ex)(e:Env)(h:Heap):Prop:=
 x= .normal∧∃k2:Nat,h=⟨[(0,none),(1,some (arc .u8 8 [])),(2,some (arc .u8 8 zo2_1))],k2⟩∧e.length=15∧e.at 2=V.ptr 1 1 0∧e.at 3=V.ptr 2 2 0
theorem l291_1(a0:Ar .u8 8){lo:Int}{s:(List Int)}{t:(List Int)}(hF:forR lo 8 (F291_1_B a0) (F291_1_D a0) s=some t){e:Env}{h:Heap}(hI:I291_1 a0 lo s e h):W A c291_1 e h (P291_1 a0 t):=by
 show W A (.block 0 (.loop false b291_1)) e h _;rw[W_block];refine W_forR hF 3 (by obtain⟨_,rfl,_⟩:=hI; rfl) (I291_1 a0) hI ?_ ?_
 ·rintro v4_1 o2_1 e h ⟨k2,rfl,h_1⟩ hlt hw o ho
  unfold F291_1_B at ho;obtain⟨n4,gn4,ho⟩:=bS ho;obtain⟨w5a,w5b,w5c,w5d⟩:=ixI_w gn4;have w6:ofCells none (List.drop n4 (arc .u8 8 a0.val))=some (V.int .u8 (a0.val.getD n4 0)):=by first|exact arc_one' (i:=n4) (by omega) (by omega)|(simp only[List.drop_drop]; exact arc_one' (i:=n4) (by omega) (by omega))|(show ofCells none (List.drop 0 _)=_; exact arc_one' (i:=n4) (by omega) (by omega))
  obtain⟨l7,gl7,ho⟩:=bS ho;have w8:List.take n4 (arc .u8 8 o2_1)++[V.int .u8 (a0.val.getD n4 0)]++List.drop (n4+1) (arc .u8 8 o2_1)=arc .u8 8 l7:=by rw[←Option.some.inj gl7]; exact arc_set (by omega)
  have w8l:n4+1≤8:=by omega
  cases ho;simp only[simprocAttr,R0,b291_1,h_1,eq_true hlt,hw,w5a,w5b,w5c,w6,w8,eq_true w8l];refine ai rfl (ei _ (ai rfl ?_));simp only[simprocAttr,R0,h_1,eq_true hlt,hw,w5a,w5b,w5c,w6,w8,eq_true w8l]
 ·rintro v4_1 o2_1 e h ⟨k2,rfl,h_1⟩ hge t1 ho
  unfold F291_1_D at ho;cases ho;simp only[simprocAttr,R0,b291_1,h_1,eq_false hge];intro ht; subst ht;refine ai rfl (ei _ (ai rfl ?_));simp only[simprocAttr,R0,h_1,eq_false hge]
theorem s291(a0:Ar .u8 8){r:Ar .u8 8}(hF:F291 a0=some r):ans A 291 [V.agg (arc .u8 8 a0.val)]=some (Enc.enc r):=by
 refine ans_of (f:=p291) rfl rfl rfl fun e hl he=>?_;have h0_0:e.at 0=V.agg (arc .u8 8 a0.val):=he 0 _ rfl;have hl_0:e.length=15:=hl;clear he hl;show W A b291 e ⟨[],0⟩ _;unfold F291 at hF;obtain⟨zo2_1,gt9,hF⟩:=bS hF;simp only[simprocAttr,R0,b291,hl_0,h0_0,(show [V.int .u8 0,V.int .u8 0,V.int .u8 0,V.int .u8 0,V.int .u8 0,V.int .u8 0,V.int .u8 0,V.int .u8 0]=arc .u8 8 [] from rfl)];refine W.mono (l291_1 a0 gt9 (ei _ (ai rfl ?_))) ?_
 ·simp only[simprocAttr,R0,hl_0,h0_0,(show [V.int .u8 0,V.int .u8 0,V.int .u8 0,V.int .u8 0,V.int .u8 0,V.int .u8 0,V.int .u8 0,V.int .u8 0]=arc .u8 8 [] from rfl)]
 rintro _ e _ ⟨rfl,k2,rfl,h_3⟩;have w12:List.drop 8 (arc .u8 8 [])=[]:=List.drop_eq_nil_of_le (by rw[arc_len]; exact Nat.le_refl _);cases hF;simp only[simprocAttr,R0,h_3,w12,List.append_nil];exact fin_ret (by simp only[simprocAttr,R0,fn_out,p291,Rs.ev,take_len_self,h_3,w12,List.append_nil])
def F254_1_B(a0:Ar .u8 64)(v4_1:Int)(o2_1:(List Int)):Option (((List Int))⊕((List Int))):=
 (ixI 8 v4_1).bind fun n4=>
(F291 ⟨(arP a0.val (n4*8) 8)⟩).bind fun x7=>
(some (arU 64 o2_1 (n4*8) 8 x7.val)).bind fun l9=>
some (.inl l9)
def F254_1_D(a0:Ar .u8 64)(v4_1:Int)(o2_1:(List Int)):Option ((List Int)):=
 some o2_1
def F254(a0:Ar .u8 64):Option (Ar .u8 64):=
 (forR 0 8 (F254_1_B a0) (F254_1_D a0) ([]:(List Int))).bind fun zo2_1=>
 some ⟨zo2_1⟩
def I254_1(a0:Ar .u8 64)(v4_1:Int)(o2_1:(List Int))(e:Env)(h:Heap):Prop:=
 ∃k2:Nat,h=⟨[(0,none),(1,some (arc .u8 64 [])),(2,some (arc .u8 64 o2_1))],k2⟩∧e.length=16∧e.at 1=V.iptr (arc .u8 64 a0.val)∧e.at 2=V.ptr 1 1 0∧e.at 3=V.ptr 2 2 0∧e.at 4=V.int .i64 v4_1
def P254_1(a0:Ar .u8 64)(zo2_1:(List Int))(x:Ex)(e:Env)(h:Heap):Prop:=
 x= .normal∧∃k2:Nat,h=⟨[(0,none),(1,some (arc .u8 64 [])),(2,some (arc .u8 64 zo2_1))],k2⟩∧e.length=16∧e.at 2=V.ptr 1 1 0∧e.at 3=V.ptr 2 2 0
theorem l254_1(a0:Ar .u8 64){lo:Int}{s:(List Int)}{t:(List Int)}(hF:forR lo 8 (F254_1_B a0) (F254_1_D a0) s=some t){e:Env}{h:Heap}(hI:I254_1 a0 lo s e h):W A c254_1 e h (P254_1 a0 t):=by
 show W A (.block 0 (.loop false b254_1)) e h _;rw[W_block];refine W_forR hF 3 (by obtain⟨_,rfl,_⟩:=hI; rfl) (I254_1 a0) hI ?_ ?_
 ·rintro v4_1 o2_1 e h ⟨k2,rfl,h_1⟩ hlt hw o ho
  unfold F254_1_B at ho;obtain⟨n4,gn4,ho⟩:=bS ho;obtain⟨w5a,w5b,w5c,w5d⟩:=ixI_w gn4;have w6:List.take 8 (List.drop (n4*8) (arc .u8 64 a0.val))=arc .u8 8 (arP a0.val (n4*8) 8):=by first|exact arc_part' (i:=n4*8) (m:=8) (by omega) (by omega)|(simp only[List.drop_drop]; exact arc_part' (i:=n4*8) (m:=8) (by omega) (by omega))|(show List.take _ (List.drop 0 _)=_; exact arc_part' (i:=n4*8) (m:=8) (by omega) (by omega))
  have w6l:8≤List.length (List.drop (n4*8) (arc .u8 64 a0.val)):=by simp only[List.length_drop,arc_len]; omega
  obtain⟨x7,gx7,ho⟩:=bS ho;have w8:ans A 291 [V.agg (arc .u8 8 (arP a0.val (n4*8) 8))]=some (V.agg (arc .u8 8 x7.val)):=s291 ⟨(arP a0.val (n4*8) 8)⟩ gx7;obtain⟨l9,gl9,ho⟩:=bS ho;have w10:List.take (n4*8) (arc .u8 64 o2_1)++arc .u8 8 x7.val++List.drop (n4*8+8) (arc .u8 64 o2_1)=arc .u8 64 l9:=by rw[←Option.some.inj gl9]; exact arc_sets (by omega)
  have w10l:n4*8+8≤64:=by omega
  cases ho;simp only[simprocAttr,R0,b254_1,h_1,eq_true hlt,hw,w5a,w5b,w5c,w6,eq_true w6l,w8,w10,eq_true w10l];refine ai rfl (ei _ (ai rfl ?_));simp only[simprocAttr,R0,h_1,eq_true hlt,hw,w5a,w5b,w5c,w6,eq_true w6l,w8,w10,eq_true w10l]
 ·rintro v4_1 o2_1 e h ⟨k2,rfl,h_1⟩ hge t1 ho
  unfold F254_1_D at ho;cases ho;simp only[simprocAttr,R0,b254_1,h_1,eq_false hge];intro ht; subst ht;refine ai rfl (ei _ (ai rfl ?_));simp only[simprocAttr,R0,h_1,eq_false hge]
theorem s254(a0:Ar .u8 64){r:Ar .u8 64}(hF:F254 a0=some r):ans A 254 [V.agg (arc .u8 64 a0.val)]=some (Enc.enc r):=by
 refine ans_of (f:=p254) rfl rfl rfl fun e hl he=>?_;have h0_0:e.at 0=V.agg (arc .u8 64 a0.val):=he 0 _ rfl;have hl_0:e.length=16:=hl;clear he hl;show W A b254 e ⟨[],0⟩ _;unfold F254 at hF;obtain⟨zo2_1,gt11,hF⟩:=bS hF;simp only[simprocAttr,R0,b254,hl_0,h0_0,(show [V.int .u8 0,V.int .u8 0,V.int .u8 0,V.int .u8 0,V.int .u8 0,V.int .u8 0,V.int .u8 0,V.int .u8 0,V.int .u8 0,V.int .u8 0,V.int .u8 0,V.int .u8 0,V.int .u8 0,V.int .u8 0,V.int .u8 0,V.int .u8 0,V.int .u8 0,V.int .u8 0,V.int .u8 0,V.int .u8 0,V.int .u8 0,V.int .u8 0,V.int .u8 0,V.int .u8 0,V.int .u8 0,V.int .u8 0,V.int .u8 0,V.int .u8 0,V.int .u8 0,V.int .u8 0,V.int .u8 0,V.int .u8 0,V.int .u8 0,V.int .u8 0,V.int .u8 0,V.int .u8 0,V.int .u8 0,V.int .u8 0,V.int .u8 0,V.int .u8 0,V.int .u8 0,V.int .u8 0,V.int .u8 0,V.int .u8 0,V.int .u8 0,V.int .u8 0,V.int .u8 0,V.int .u8 0,V.int .u8 0,V.int .u8 0,V.int .u8 0,V.int .u8 0,V.int .u8 0,V.int .u8 0,V.int .u8 0,V.int .u8 0,V.int .u8 0,V.int .u8 0,V.int .u8 0,V.int .u8 0,V.int .u8 0,V.int .u8 0,V.int .u8 0,V.int .u8 0]=arc .u8 64 [] from rfl)];refine W.mono (l254_1 a0 gt11 (ei _ (ai rfl ?_))) ?_
 ·simp only[simprocAttr,R0,hl_0,h0_0,(show [V.int .u8 0,V.int .u8 0,V.int .u8 0,V.int .u8 0,V.int .u8 0,V.int .u8 0,V.int .u8 0,V.int .u8 0,V.int .u8 0,V.int .u8 0,V.int .u8 0,V.int .u8 0,V.int .u8 0,V.int .u8 0,V.int .u8 0,V.int .u8 0,V.int .u8 0,V.int .u8 0,V.int .u8 0,V.int .u8 0,V.int .u8 0,V.int .u8 0,V.int .u8 0,V.int .u8 0,V.int .u8 0,V.int .u8 0,V.int .u8 0,V.int .u8 0,V.int .u8 0,V.int .u8 0,V.int .u8 0,V.int .u8 0,V.int .u8 0,V.int .u8 0,V.int .u8 0,V.int .u8 0,V.int .u8 0,V.int .u8 0,V.int .u8 0,V.int .u8 0,V.int .u8 0,V.int .u8 0,V.int .u8 0,V.int .u8 0,V.int .u8 0,V.int .u8 0,V.int .u8 0,V.int .u8 0,V.int .u8 0,V.int .u8 0,V.int .u8 0,V.int .u8 0,V.int .u8 0,V.int .u8 0,V.int .u8 0,V.int .u8 0,V.int .u8 0,V.int .u8 0,V.int .u8 0,V.int .u8 0,V.int .u8 0,V.int .u8 0,V.int .u8 0,V.int .u8 0]=arc .u8 64 [] from rfl)]
 rintro _ e _ ⟨rfl,k2,rfl,h_3⟩;have w14:List.drop 64 (arc .u8 64 [])=[]:=List.drop_eq_nil_of_le (by rw[arc_len]; exact Nat.le_refl _);cases hF;simp only[simprocAttr,R0,h_3,w14,List.append_nil];exact fin_ret (by simp only[simprocAttr,R0,fn_out,p254,Rs.ev,take_len_self,h_3,w14,List.append_nil])
def F255_1_B(a0:Ar .u8 512)(v4_1:Int)(o2_1:(List Int)):Option (((List Int))⊕((List Int))):=
 (ixI 8 v4_1).bind fun n4=>
(F254 ⟨(arP a0.val (n4*64) 64)⟩).bind fun x7=>
(some (arU 512 o2_1 (n4*64) 64 x7.val)).bind fun l9=>
some (.inl l9)
def F255_1_D(a0:Ar .u8 512)(v4_1:Int)(o2_1:(List Int)):Option ((List Int)):=
 some o2_1
def F255(a0:Ar .u8 512):Option (Ar .u8 512):=
 (forR 0 8 (F255_1_B a0) (F255_1_D a0) ([]:(List Int))).bind fun zo2_1=>
 some ⟨zo2_1⟩
def I255_1(a0:Ar .u8 512)(v4_1:Int)(o2_1:(List Int))(e:Env)(h:Heap):Prop:=
 ∃k2:Nat,h=⟨[(0,none),(1,some (arc .u8 512 [])),(2,some (arc .u8 512 o2_1))],k2⟩∧e.length=16∧e.at 1=V.iptr (arc .u8 512 a0.val)∧e.at 2=V.ptr 1 1 0∧e.at 3=V.ptr 2 2 0∧e.at 4=V.int .i64 v4_1
def P255_1(a0:Ar .u8 512)(zo2_1:(List Int))(x:Ex)(e:Env)(h:Heap):Prop:=
 x= .normal∧∃k2:Nat,h=⟨[(0,none),(1,some (arc .u8 512 [])),(2,some (arc .u8 512 zo2_1))],k2⟩∧e.length=16∧e.at 2=V.ptr 1 1 0∧e.at 3=V.ptr 2 2 0
theorem l255_1(a0:Ar .u8 512){lo:Int}{s:(List Int)}{t:(List Int)}(hF:forR lo 8 (F255_1_B a0) (F255_1_D a0) s=some t){e:Env}{h:Heap}(hI:I255_1 a0 lo s e h):W A c255_1 e h (P255_1 a0 t):=by
 show W A (.block 0 (.loop false b255_1)) e h _;rw[W_block];refine W_forR hF 3 (by obtain⟨_,rfl,_⟩:=hI; rfl) (I255_1 a0) hI ?_ ?_
 ·rintro v4_1 o2_1 e h ⟨k2,rfl,h_1⟩ hlt hw o ho
  unfold F255_1_B at ho;obtain⟨n4,gn4,ho⟩:=bS ho;obtain⟨w5a,w5b,w5c,w5d⟩:=ixI_w gn4;have w6:List.take 64 (List.drop (n4*64) (arc .u8 512 a0.val))=arc .u8 64 (arP a0.val (n4*64) 64):=by first|exact arc_part' (i:=n4*64) (m:=64) (by omega) (by omega)|(simp only[List.drop_drop]; exact arc_part' (i:=n4*64) (m:=64) (by omega) (by omega))|(show List.take _ (List.drop 0 _)=_; exact arc_part' (i:=n4*64) (m:=64) (by omega) (by omega))
  have w6l:64≤List.length (List.drop (n4*64) (arc .u8 512 a0.val)):=by simp only[List.length_drop,arc_len]; omega
  obtain⟨x7,gx7,ho⟩:=bS ho;have w8:ans A 254 [V.agg (arc .u8 64 (arP a0.val (n4*64) 64))]=some (V.agg (arc .u8 64 x7.val)):=s254 ⟨(arP a0.val (n4*64) 64)⟩ gx7;obtain⟨l9,gl9,ho⟩:=bS ho;have w10:List.take (n4*64) (arc .u8 512 o2_1)++arc .u8 64 x7.val++List.drop (n4*64+64) (arc .u8 512 o2_1)=arc .u8 512 l9:=by rw[←Option.some.inj gl9]; exact arc_sets (by omega)
  have w10l:n4*64+64≤512:=by omega
  cases ho;simp only[simprocAttr,R0,b255_1,h_1,eq_true hlt,hw,w5a,w5b,w5c,w6,eq_true w6l,w8,w10,eq_true w10l];refine ai rfl (ei _ (ai rfl ?_));simp only[simprocAttr,R0,h_1,eq_true hlt,hw,w5a,w5b,w5c,w6,eq_true w6l,w8,w10,eq_true w10l]
 ·rintro v4_1 o2_1 e h ⟨k2,rfl,h_1⟩ hge t1 ho
  unfold F255_1_D at ho;cases ho;simp only[simprocAttr,R0,b255_1,h_1,eq_false hge];intro ht; subst ht;refine ai rfl (ei _ (ai rfl ?_));simp only[simprocAttr,R0,h_1,eq_false hge]
theorem s255(a0:Ar .u8 512){r:Ar .u8 512}(hF:F255 a0=some r):ans A 255 [V.agg (arc .u8 512 a0.val)]=some (Enc.enc r):=by
 refine ans_of (f:=p255) rfl rfl rfl fun e hl he=>?_;have h0_0:e.at 0=V.agg (arc .u8 512 a0.val):=he 0 _ rfl;have hl_0:e.length=16:=hl;clear he hl;show W A b255 e ⟨[],0⟩ _;unfold F255 at hF;obtain⟨zo2_1,gt11,hF⟩:=bS hF;simp only[simprocAttr,R0,b255,hl_0,h0_0,(show [V.int .u8 0,V.int .u8 0,V.int .u8 0,V.int .u8 0,V.int .u8 0,V.int .u8 0,V.int .u8 0,V.int .u8 0,V.int .u8 0,V.int .u8 0,V.int .u8 0,V.int .u8 0,V.int .u8 0,V.int .u8 0,V.int .u8 0,V.int .u8 0,V.int .u8 0,V.int .u8 0,V.int .u8 0,V.int .u8 0,V.int .u8 0,V.int .u8 0,V.int .u8 0,V.int .u8 0,V.int .u8 0,V.int .u8 0,V.int .u8 0,V.int .u8 0,V.int .u8 0,V.int .u8 0,V.int .u8 0,V.int .u8 0,V.int .u8 0,V.int .u8 0,V.int .u8 0,V.int .u8 0,V.int .u8 0,V.int .u8 0,V.int .u8 0,V.int .u8 0,V.int .u8 0,V.int .u8 0,V.int .u8 0,V.int .u8 0,V.int .u8 0,V.int .u8 0,V.int .u8 0,V.int .u8 0,V.int .u8 0,V.int .u8 0,V.int .u8 0,V.int .u8 0,V.int .u8 0,V.int .u8 0,V.int .u8 0,V.int .u8 0,V.int .u8 0,V.int .u8 0,V.int .u8 0,V.int .u8 0,V.int .u8 0,V.int .u8 0,V.int .u8 0,V.int .u8 0,V.int .u8 0,V.int .u8 0,V.int .u8 0,V.int .u8 0,V.int .u8 0,V.int .u8 0,V.int .u8 0,V.int .u8 0,V.int .u8 0,V.int .u8 0,V.int .u8 0,V.int .u8 0,V.int .u8 0,V.int .u8 0,V.int .u8 0,V.int .u8 0,V.int .u8 0,V.int .u8 0,V.int .u8 0,V.int .u8 0,V.int .u8 0,V.int .u8 0,V.int .u8 0,V.int .u8 0,V.int .u8 0,V.int .u8 0,V.int .u8 0,V.int .u8 0,V.int .u8 0,V.int .u8 0,V.int .u8 0,V.int .u8 0,V.int .u8 0,V.int .u8 0,V.int .u8 0,V.int .u8 0,V.int .u8 0,V.int .u8 0,V.int .u8 0,V.int .u8 0,V.int .u8 0,V.int .u8 0,V.int .u8 0,V.int .u8 0,V.int .u8 0,V.int .u8 0,V.int .u8 0,V.int .u8 0,V.int .u8 0,V.int .u8 0,V.int .u8 0,V.int .u8 0,V.int .u8 0,V.int .u8 0,V.int .u8 0,V.int .u8 0,V.int .u8 0,V.int .u8 0,V.int .u8 0,V.int .u8 0,V.int .u8 0,V.int .u8 0,V.int .u8 0,V.int .u8 0,V.int .u8 0,V.int .u8 0,V.int .u8 0,V.int .u8 0,V.int .u8 0,V.int .u8 0,V.int .u8 0,V.int .u8 0,V.int .u8 0,V.int .u8 0,V.int .u8 0,V.int .u8 0,V.int .u8 0,V.int .u8 0,V.int .u8 0,V.int .u8 0,V.int .u8 0,V.int .u8 0,V.int .u8 0,V.int .u8 0,V.int .u8 0,V.int .u8 0,V.int .u8 0,V.int .u8 0,V.int .u8 0,V.int .u8 0,V.int .u8 0,V.int .u8 0,V.int .u8 0,V.int .u8 0,V.int .u8 0,V.int .u8 0,V.int .u8 0,V.int .u8 0,V.int .u8 0,V.int .u8 0,V.int .u8 0,V.int .u8 0,V.int .u8 0,V.int .u8 0,V.int .u8 0,V.int .u8 0,V.int .u8 0,V.int .u8 0,V.int .u8 0,V.int .u8 0,V.int .u8 0,V.int .u8 0,V.int .u8 0,V.int .u8 0,V.int .u8 0,V.int .u8 0,V.int .u8 0,V.int .u8 0,V.int .u8 0,V.int .u8 0,V.int .u8 0,V.int .u8 0,V.int .u8 0,V.int .u8 0,V.int .u8 0,V.int .u8 0,V.int .u8 0,V.int .u8 0,V.int .u8 0,V.int .u8 0,V.int .u8 0,V.int .u8 0,V.int .u8 0,V.int .u8 0,V.int .u8 0,V.int .u8 0,V.int .u8 0,V.int .u8 0,V.int .u8 0,V.int .u8 0,V.int .u8 0,V.int .u8 0,V.int .u8 0,V.int .u8 0,V.int .u8 0,V.int .u8 0,V.int .u8 0,V.int .u8 0,V.int .u8 0,V.int .u8 0,V.int .u8 0,V.int .u8 0,V.int .u8 0,V.int .u8 0,V.int .u8 0,V.int .u8 0,V.int .u8 0,V.int .u8 0,V.int .u8 0,V.int .u8 0,V.int .u8 0,V.int .u8 0,V.int .u8 0,V.int .u8 0,V.int .u8 0,V.int .u8 0,V.int .u8 0,V.int .u8 0,V.int .u8 0,V.int .u8 0,V.int .u8 0,V.int .u8 0,V.int .u8 0,V.int .u8 0,V.int .u8 0,V.int .u8 0,V.int .u8 0,V.int .u8 0,V.int .u8 0,V.int .u8 0,V.int .u8 0,V.int .u8 0,V.int .u8 0,V.int .u8 0,V.int .u8 0,V.int .u8 0,V.int .u8 0,V.int .u8 0,V.int .u8 0,V.int .u8 0,V.int .u8 0,V.int .u8 0,V.int .u8 0,V.int .u8 0,V.int .u8 0,V.int .u8 0,V.int .u8 0,V.int .u8 0,V.int .u8 0,V.int .u8 0,V.int .u8 0,V.int .u8 0,V.int .u8 0,V.int .u8 0,V.int .u8 0,V.int .u8 0,V.int .u8 0,V.int .u8 0,V.int .u8 0,V.int .u8 0,V.int .u8 0,V.int .u8 0,V.int .u8 0,V.int .u8 0,V.int .u8 0,V.int .u8 0,V.int .u8 0,V.int .u8 0,V.int .u8 0,V.int .u8 0,V.int .u8 0,V.int .u8 0,V.int .u8 0,V.int .u8 0,V.int .u8 0,V.int .u8 0,V.int .u8 0,V.int .u8 0,V.int .u8 0,V.int .u8 0,V.int .u8 0,V.int .u8 0,V.int .u8 0,V.int .u8 0,V.int .u8 0,V.int .u8 0,V.int .u8 0,V.int .u8 0,V.int .u8 0,V.int .u8 0,V.int .u8 0,V.int .u8 0,V.int .u8 0,V.int .u8 0,V.int .u8 0,V.int .u8 0,V.int .u8 0,V.int .u8 0,V.int .u8 0,V.int .u8 0,V.int .u8 0,V.int .u8 0,V.int .u8 0,V.int .u8 0,V.int .u8 0,V.int .u8 0,V.int .u8 0,V.int .u8 0,V.int .u8 0,V.int .u8 0,V.int .u8 0,V.int .u8 0,V.int .u8 0,V.int .u8 0,V.int .u8 0,V.int .u8 0,V.int .u8 0,V.int .u8 0,V.int .u8 0,V.int .u8 0,V.int .u8 0,V.int .u8 0,V.int .u8 0,V.int .u8 0,V.int .u8 0,V.int .u8 0,V.int .u8 0,V.int .u8 0,V.int .u8 0,V.int .u8 0,V.int .u8 0,V.int .u8 0,V.int .u8 0,V.int .u8 0,V.int .u8 0,V.int .u8 0,V.int .u8 0,V.int .u8 0,V.int .u8 0,V.int .u8 0,V.int .u8 0,V.int .u8 0,V.int .u8 0,V.int .u8 0,V.int .u8 0,V.int .u8 0,V.int .u8 0,V.int .u8 0,V.int .u8 0,V.int .u8 0,V.int .u8 0,V.int .u8 0,V.int .u8 0,V.int .u8 0,V.int .u8 0,V.int .u8 0,V.int .u8 0,V.int .u8 0,V.int .u8 0,V.int .u8 0,V.int .u8 0,V.int .u8 0,V.int .u8 0,V.int .u8 0,V.int .u8 0,V.int .u8 0,V.int .u8 0,V.int .u8 0,V.int .u8 0,V.int .u8 0,V.int .u8 0,V.int .u8 0,V.int .u8 0,V.int .u8 0,V.int .u8 0,V.int .u8 0,V.int .u8 0,V.int .u8 0,V.int .u8 0,V.int .u8 0,V.int .u8 0,V.int .u8 0,V.int .u8 0,V.int .u8 0,V.int .u8 0,V.int .u8 0,V.int .u8 0,V.int .u8 0,V.int .u8 0,V.int .u8 0,V.int .u8 0,V.int .u8 0,V.int .u8 0,V.int .u8 0,V.int .u8 0,V.int .u8 0,V.int .u8 0,V.int .u8 0,V.int .u8 0,V.int .u8 0,V.int .u8 0,V.int .u8 0,V.int .u8 0,V.int .u8 0,V.int .u8 0,V.int .u8 0,V.int .u8 0,V.int .u8 0,V.int .u8 0,V.int .u8 0,V.int .u8 0,V.int .u8 0,V.int .u8 0,V.int .u8 0,V.int .u8 0,V.int .u8 0,V.int .u8 0,V.int .u8 0,V.int .u8 0,V.int .u8 0,V.int .u8 0,V.int .u8 0,V.int .u8 0,V.int .u8 0,V.int .u8 0,V.int .u8 0,V.int .u8 0,V.int .u8 0,V.int .u8 0,V.int .u8 0,V.int .u8 0,V.int .u8 0,V.int .u8 0,V.int .u8 0,V.int .u8 0,V.int .u8 0,V.int .u8 0,V.int .u8 0,V.int .u8 0,V.int .u8 0,V.int .u8 0,V.int .u8 0,V.int .u8 0,V.int .u8 0,V.int .u8 0,V.int .u8 0,V.int .u8 0,V.int .u8 0,V.int .u8 0,V.int .u8 0,V.int .u8 0,V.int .u8 0,V.int .u8 0,V.int .u8 0,V.int .u8 0,V.int .u8 0,V.int .u8 0,V.int .u8 0,V.int .u8 0,V.int .u8 0,V.int .u8 0,V.int .u8 0,V.int .u8 0,V.int .u8 0,V.int .u8 0,V.int .u8 0,V.int .u8 0,V.int .u8 0,V.int .u8 0,V.int .u8 0,V.int .u8 0,V.int .u8 0,V.int .u8 0,V.int .u8 0,V.int .u8 0,V.int .u8 0,V.int .u8 0,V.int .u8 0,V.int .u8 0,V.int .u8 0,V.int .u8 0,V.int .u8 0,V.int .u8 0,V.int .u8 0,V.int .u8 0,V.int .u8 0,V.int .u8 0,V.int .u8 0,V.int .u8 0,V.int .u8 0,V.int .u8 0,V.int .u8 0,V.int .u8 0,V.int .u8 0,V.int .u8 0,V.int .u8 0,V.int .u8 0,V.int .u8 0]=arc .u8 512 [] from rfl)]
 refine W.mono (l255_1 a0 gt11 (ei _ (ai rfl ?_))) ?_
 ·simp only[simprocAttr,R0,hl_0,h0_0,(show [V.int .u8 0,V.int .u8 0,V.int .u8 0,V.int .u8 0,V.int .u8 0,V.int .u8 0,V.int .u8 0,V.int .u8 0,V.int .u8 0,V.int .u8 0,V.int .u8 0,V.int .u8 0,V.int .u8 0,V.int .u8 0,V.int .u8 0,V.int .u8 0,V.int .u8 0,V.int .u8 0,V.int .u8 0,V.int .u8 0,V.int .u8 0,V.int .u8 0,V.int .u8 0,V.int .u8 0,V.int .u8 0,V.int .u8 0,V.int .u8 0,V.int .u8 0,V.int .u8 0,V.int .u8 0,V.int .u8 0,V.int .u8 0,V.int .u8 0,V.int .u8 0,V.int .u8 0,V.int .u8 0,V.int .u8 0,V.int .u8 0,V.int .u8 0,V.int .u8 0,V.int .u8 0,V.int .u8 0,V.int .u8 0,V.int .u8 0,V.int .u8 0,V.int .u8 0,V.int .u8 0,V.int .u8 0,V.int .u8 0,V.int .u8 0,V.int .u8 0,V.int .u8 0,V.int .u8 0,V.int .u8 0,V.int .u8 0,V.int .u8 0,V.int .u8 0,V.int .u8 0,V.int .u8 0,V.int .u8 0,V.int .u8 0,V.int .u8 0,V.int .u8 0,V.int .u8 0,V.int .u8 0,V.int .u8 0,V.int .u8 0,V.int .u8 0,V.int .u8 0,V.int .u8 0,V.int .u8 0,V.int .u8 0,V.int .u8 0,V.int .u8 0,V.int .u8 0,V.int .u8 0,V.int .u8 0,V.int .u8 0,V.int .u8 0,V.int .u8 0,V.int .u8 0,V.int .u8 0,V.int .u8 0,V.int .u8 0,V.int .u8 0,V.int .u8 0,V.int .u8 0,V.int .u8 0,V.int .u8 0,V.int .u8 0,V.int .u8 0,V.int .u8 0,V.int .u8 0,V.int .u8 0,V.int .u8 0,V.int .u8 0,V.int .u8 0,V.int .u8 0,V.int .u8 0,V.int .u8 0,V.int .u8 0,V.int .u8 0,V.int .u8 0,V.int .u8 0,V.int .u8 0,V.int .u8 0,V.int .u8 0,V.int .u8 0,V.int .u8 0,V.int .u8 0,V.int .u8 0,V.int .u8 0,V.int .u8 0,V.int .u8 0,V.int .u8 0,V.int .u8 0,V.int .u8 0,V.int .u8 0,V.int .u8 0,V.int .u8 0,V.int .u8 0,V.int .u8 0,V.int .u8 0,V.int .u8 0,V.int .u8 0,V.int .u8 0,V.int .u8 0,V.int .u8 0,V.int .u8 0,V.int .u8 0,V.int .u8 0,V.int .u8 0,V.int .u8 0,V.int .u8 0,V.int .u8 0,V.int .u8 0,V.int .u8 0,V.int .u8 0,V.int .u8 0,V.int .u8 0,V.int .u8 0,V.int .u8 0,V.int .u8 0,V.int .u8 0,V.int .u8 0,V.int .u8 0,V.int .u8 0,V.int .u8 0,V.int .u8 0,V.int .u8 0,V.int .u8 0,V.int .u8 0,V.int .u8 0,V.int .u8 0,V.int .u8 0,V.int .u8 0,V.int .u8 0,V.int .u8 0,V.int .u8 0,V.int .u8 0,V.int .u8 0,V.int .u8 0,V.int .u8 0,V.int .u8 0,V.int .u8 0,V.int .u8 0,V.int .u8 0,V.int .u8 0,V.int .u8 0,V.int .u8 0,V.int .u8 0,V.int .u8 0,V.int .u8 0,V.int .u8 0,V.int .u8 0,V.int .u8 0,V.int .u8 0,V.int .u8 0,V.int .u8 0,V.int .u8 0,V.int .u8 0,V.int .u8 0,V.int .u8 0,V.int .u8 0,V.int .u8 0,V.int .u8 0,V.int .u8 0,V.int .u8 0,V.int .u8 0,V.int .u8 0,V.int .u8 0,V.int .u8 0,V.int .u8 0,V.int .u8 0,V.int .u8 0,V.int .u8 0,V.int .u8 0,V.int .u8 0,V.int .u8 0,V.int .u8 0,V.int .u8 0,V.int .u8 0,V.int .u8 0,V.int .u8 0,V.int .u8 0,V.int .u8 0,V.int .u8 0,V.int .u8 0,V.int .u8 0,V.int .u8 0,V.int .u8 0,V.int .u8 0,V.int .u8 0,V.int .u8 0,V.int .u8 0,V.int .u8 0,V.int .u8 0,V.int .u8 0,V.int .u8 0,V.int .u8 0,V.int .u8 0,V.int .u8 0,V.int .u8 0,V.int .u8 0,V.int .u8 0,V.int .u8 0,V.int .u8 0,V.int .u8 0,V.int .u8 0,V.int .u8 0,V.int .u8 0,V.int .u8 0,V.int .u8 0,V.int .u8 0,V.int .u8 0,V.int .u8 0,V.int .u8 0,V.int .u8 0,V.int .u8 0,V.int .u8 0,V.int .u8 0,V.int .u8 0,V.int .u8 0,V.int .u8 0,V.int .u8 0,V.int .u8 0,V.int .u8 0,V.int .u8 0,V.int .u8 0,V.int .u8 0,V.int .u8 0,V.int .u8 0,V.int .u8 0,V.int .u8 0,V.int .u8 0,V.int .u8 0,V.int .u8 0,V.int .u8 0,V.int .u8 0,V.int .u8 0,V.int .u8 0,V.int .u8 0,V.int .u8 0,V.int .u8 0,V.int .u8 0,V.int .u8 0,V.int .u8 0,V.int .u8 0,V.int .u8 0,V.int .u8 0,V.int .u8 0,V.int .u8 0,V.int .u8 0,V.int .u8 0,V.int .u8 0,V.int .u8 0,V.int .u8 0,V.int .u8 0,V.int .u8 0,V.int .u8 0,V.int .u8 0,V.int .u8 0,V.int .u8 0,V.int .u8 0,V.int .u8 0,V.int .u8 0,V.int .u8 0,V.int .u8 0,V.int .u8 0,V.int .u8 0,V.int .u8 0,V.int .u8 0,V.int .u8 0,V.int .u8 0,V.int .u8 0,V.int .u8 0,V.int .u8 0,V.int .u8 0,V.int .u8 0,V.int .u8 0,V.int .u8 0,V.int .u8 0,V.int .u8 0,V.int .u8 0,V.int .u8 0,V.int .u8 0,V.int .u8 0,V.int .u8 0,V.int .u8 0,V.int .u8 0,V.int .u8 0,V.int .u8 0,V.int .u8 0,V.int .u8 0,V.int .u8 0,V.int .u8 0,V.int .u8 0,V.int .u8 0,V.int .u8 0,V.int .u8 0,V.int .u8 0,V.int .u8 0,V.int .u8 0,V.int .u8 0,V.int .u8 0,V.int .u8 0,V.int .u8 0,V.int .u8 0,V.int .u8 0,V.int .u8 0,V.int .u8 0,V.int .u8 0,V.int .u8 0,V.int .u8 0,V.int .u8 0,V.int .u8 0,V.int .u8 0,V.int .u8 0,V.int .u8 0,V.int .u8 0,V.int .u8 0,V.int .u8 0,V.int .u8 0,V.int .u8 0,V.int .u8 0,V.int .u8 0,V.int .u8 0,V.int .u8 0,V.int .u8 0,V.int .u8 0,V.int .u8 0,V.int .u8 0,V.int .u8 0,V.int .u8 0,V.int .u8 0,V.int .u8 0,V.int .u8 0,V.int .u8 0,V.int .u8 0,V.int .u8 0,V.int .u8 0,V.int .u8 0,V.int .u8 0,V.int .u8 0,V.int .u8 0,V.int .u8 0,V.int .u8 0,V.int .u8 0,V.int .u8 0,V.int .u8 0,V.int .u8 0,V.int .u8 0,V.int .u8 0,V.int .u8 0,V.int .u8 0,V.int .u8 0,V.int .u8 0,V.int .u8 0,V.int .u8 0,V.int .u8 0,V.int .u8 0,V.int .u8 0,V.int .u8 0,V.int .u8 0,V.int .u8 0,V.int .u8 0,V.int .u8 0,V.int .u8 0,V.int .u8 0,V.int .u8 0,V.int .u8 0,V.int .u8 0,V.int .u8 0,V.int .u8 0,V.int .u8 0,V.int .u8 0,V.int .u8 0,V.int .u8 0,V.int .u8 0,V.int .u8 0,V.int .u8 0,V.int .u8 0,V.int .u8 0,V.int .u8 0,V.int .u8 0,V.int .u8 0,V.int .u8 0,V.int .u8 0,V.int .u8 0,V.int .u8 0,V.int .u8 0,V.int .u8 0,V.int .u8 0,V.int .u8 0,V.int .u8 0,V.int .u8 0,V.int .u8 0,V.int .u8 0,V.int .u8 0,V.int .u8 0,V.int .u8 0,V.int .u8 0,V.int .u8 0,V.int .u8 0,V.int .u8 0,V.int .u8 0,V.int .u8 0,V.int .u8 0,V.int .u8 0,V.int .u8 0,V.int .u8 0,V.int .u8 0,V.int .u8 0,V.int .u8 0,V.int .u8 0,V.int .u8 0,V.int .u8 0,V.int .u8 0,V.int .u8 0,V.int .u8 0,V.int .u8 0,V.int .u8 0,V.int .u8 0,V.int .u8 0,V.int .u8 0,V.int .u8 0,V.int .u8 0,V.int .u8 0,V.int .u8 0,V.int .u8 0,V.int .u8 0,V.int .u8 0,V.int .u8 0,V.int .u8 0,V.int .u8 0,V.int .u8 0,V.int .u8 0,V.int .u8 0,V.int .u8 0,V.int .u8 0,V.int .u8 0,V.int .u8 0,V.int .u8 0,V.int .u8 0,V.int .u8 0,V.int .u8 0,V.int .u8 0,V.int .u8 0,V.int .u8 0,V.int .u8 0,V.int .u8 0,V.int .u8 0,V.int .u8 0,V.int .u8 0,V.int .u8 0,V.int .u8 0,V.int .u8 0,V.int .u8 0,V.int .u8 0,V.int .u8 0,V.int .u8 0,V.int .u8 0,V.int .u8 0,V.int .u8 0,V.int .u8 0,V.int .u8 0,V.int .u8 0,V.int .u8 0,V.int .u8 0,V.int .u8 0,V.int .u8 0,V.int .u8 0,V.int .u8 0,V.int .u8 0,V.int .u8 0,V.int .u8 0,V.int .u8 0,V.int .u8 0,V.int .u8 0,V.int .u8 0,V.int .u8 0,V.int .u8 0,V.int .u8 0,V.int .u8 0,V.int .u8 0,V.int .u8 0,V.int .u8 0,V.int .u8 0,V.int .u8 0,V.int .u8 0,V.int .u8 0,V.int .u8 0]=arc .u8 512 [] from rfl)]
 rintro _ e _ ⟨rfl,k2,rfl,h_3⟩;have w14:List.drop 512 (arc .u8 512 [])=[]:=List.drop_eq_nil_of_le (by rw[arc_len]; exact Nat.le_refl _);cases hF;simp only[simprocAttr,R0,h_3,w14,List.append_nil];exact fin_ret (by simp only[simprocAttr,R0,fn_out,p255,Rs.ev,take_len_self,h_3,w14,List.append_nil])
def F229(a0:GDga):Option GDga:=
 (some {(⟨0,0,⟨[]⟩,⟨[]⟩,⟨[]⟩,⟨[]⟩⟩:GDga)with Prime:=a0.Prime}).bind fun z3=>
 (some {z3 with Size:=a0.Size}).bind fun z6=>
 (F253 a0.Degrees).bind fun x8=>
 (some {z6 with Degrees:=⟨x8.val⟩}).bind fun z11=>
 (F253 a0.Levels).bind fun x13=>
 (some {z11 with Levels:=⟨x13.val⟩}).bind fun z16=>
 (F254 a0.Diff).bind fun x18=>
 (some {z16 with Diff:=⟨x18.val⟩}).bind fun z21=>
 (F255 a0.Table).bind fun x23=>
 (some {z21 with Table:=⟨x23.val⟩}).bind fun z26=>
 some z26
theorem s229(a0:GDga){r:GDga}(hF:F229 a0=some r):ans A 229 [V.agg (ceGDga a0)]=some (Enc.enc r):=by
 refine ans_of (f:=p229) rfl rfl rfl fun e hl he=>?_;have h0_0:e.at 0=V.agg (ceGDga a0):=he 0 _ rfl;have hl_0:e.length=27:=hl;clear he hl;show W A b229 e ⟨[],0⟩ _;unfold F229 at hF;have w1:ofCells none (ceGDga a0)=some (V.int .i64 a0.Prime):=by first|exact ceGDga_Prime_one (a:=_) rfl|(simp only[List.drop_drop]; exact ceGDga_Prime_one (by omega))|(show ofCells none (List.drop 0 _)=_; exact ceGDga_Prime_one rfl)
 obtain⟨z3,gz3,hF⟩:=bS hF;have w2:V.int .i64 a0.Prime::List.drop 1 (ceGDga (⟨0,0,⟨[]⟩,⟨[]⟩,⟨[]⟩,⟨[]⟩⟩:GDga))=ceGDga z3:=by rw[←Option.some.inj gz3]; exact ceGDga_Prime_set
 have w2l:1≤594:=by omega
 have w4:ofCells none (List.drop 1 (ceGDga a0))=some (V.int .i64 a0.Size):=by first|exact ceGDga_Size_one (a:=_) rfl|(simp only[List.drop_drop]; exact ceGDga_Size_one (by omega))|(show ofCells none (List.drop 0 _)=_; exact ceGDga_Size_one rfl)
 obtain⟨z6,gz6,hF⟩:=bS hF;have w5:List.take 1 (ceGDga z3)++[V.int .i64 a0.Size]++List.drop 2 (ceGDga z3)=ceGDga z6:=by rw[←Option.some.inj gz6]; exact ceGDga_Size_set
 have w5l:2≤594:=by omega
 have w7:List.take 8 (List.drop 2 (ceGDga a0))=arc .i64 8 a0.Degrees.val:=by first|exact ceGDga_Degrees_full (by omega)|(simp only[List.drop_drop]; exact ceGDga_Degrees_full (by omega))|(show List.take _ (List.drop 0 _)=_; exact ceGDga_Degrees_full (by omega))
 have w7l:8≤List.length (List.drop 2 (ceGDga a0)):=by simp only[List.length_drop,arc_len,ceGDga_len]; omega
 obtain⟨x8,gx8,hF⟩:=bS hF;have w9:ans A 253 [V.agg (arc .i64 8 a0.Degrees.val)]=some (V.agg (arc .i64 8 x8.val)):=s253 a0.Degrees gx8;obtain⟨z11,gz11,hF⟩:=bS hF;have w10:List.take 2 (ceGDga z6)++arc .i64 8 x8.val++List.drop 10 (ceGDga z6)=ceGDga z11:=by rw[←Option.some.inj gz11]; exact ceGDga_Degrees_setf (by omega) (by omega)
 have w10l:10≤594:=by omega
 have w12:List.take 8 (List.drop 10 (ceGDga a0))=arc .i64 8 a0.Levels.val:=by first|exact ceGDga_Levels_full (by omega)|(simp only[List.drop_drop]; exact ceGDga_Levels_full (by omega))|(show List.take _ (List.drop 0 _)=_; exact ceGDga_Levels_full (by omega))
 have w12l:8≤List.length (List.drop 10 (ceGDga a0)):=by simp only[List.length_drop,arc_len,ceGDga_len]; omega
 obtain⟨x13,gx13,hF⟩:=bS hF;have w14:ans A 253 [V.agg (arc .i64 8 a0.Levels.val)]=some (V.agg (arc .i64 8 x13.val)):=s253 a0.Levels gx13;obtain⟨z16,gz16,hF⟩:=bS hF;have w15:List.take 10 (ceGDga z11)++arc .i64 8 x13.val++List.drop 18 (ceGDga z11)=ceGDga z16:=by rw[←Option.some.inj gz16]; exact ceGDga_Levels_setf (by omega) (by omega)
 have w15l:18≤594:=by omega
 have w17:List.take 64 (List.drop 18 (ceGDga a0))=arc .u8 64 a0.Diff.val:=by first|exact ceGDga_Diff_full (by omega)|(simp only[List.drop_drop]; exact ceGDga_Diff_full (by omega))|(show List.take _ (List.drop 0 _)=_; exact ceGDga_Diff_full (by omega))
 have w17l:64≤List.length (List.drop 18 (ceGDga a0)):=by simp only[List.length_drop,arc_len,ceGDga_len]; omega
 obtain⟨x18,gx18,hF⟩:=bS hF;have w19:ans A 254 [V.agg (arc .u8 64 a0.Diff.val)]=some (V.agg (arc .u8 64 x18.val)):=s254 a0.Diff gx18;obtain⟨z21,gz21,hF⟩:=bS hF;have w20:List.take 18 (ceGDga z16)++arc .u8 64 x18.val++List.drop 82 (ceGDga z16)=ceGDga z21:=by rw[←Option.some.inj gz21]; exact ceGDga_Diff_setf (by omega) (by omega)
 have w20l:82≤594:=by omega
 have w22:List.take 512 (List.drop 82 (ceGDga a0))=arc .u8 512 a0.Table.val:=by first|exact ceGDga_Table_full (by omega)|(simp only[List.drop_drop]; exact ceGDga_Table_full (by omega))|(show List.take _ (List.drop 0 _)=_; exact ceGDga_Table_full (by omega))
 have w22l:512≤List.length (List.drop 82 (ceGDga a0)):=by simp only[List.length_drop,arc_len,ceGDga_len]; omega
 obtain⟨x23,gx23,hF⟩:=bS hF;have w24:ans A 255 [V.agg (arc .u8 512 a0.Table.val)]=some (V.agg (arc .u8 512 x23.val)):=s255 a0.Table gx23;obtain⟨z26,gz26,hF⟩:=bS hF;have w25:List.take 82 (ceGDga z21)++arc .u8 512 x23.val++List.drop 594 (ceGDga z21)=ceGDga z26:=by rw[←Option.some.inj gz26]; exact ceGDga_Table_setf (by omega) (by omega)
 have w25l:594≤594:=by omega
 cases hF;simp only[simprocAttr,R0,b229,hl_0,h0_0,ceGDga_zero,ceGDga_zero,w1,w2,eq_true w2l,w4,w5,eq_true w5l,w7,eq_true w7l,w9,w10,eq_true w10l,w12,eq_true w12l,w14,w15,eq_true w15l,w17,eq_true w17l,w19,w20,eq_true w20l,w22,eq_true w22l,w24,w25,eq_true w25l,(List.drop_eq_nil_of_le (Nat.le_of_eq (ceGDga_len (⟨0,0,⟨[]⟩,⟨[]⟩,⟨[]⟩,⟨[]⟩⟩:GDga))):List.drop 594 (ceGDga (⟨0,0,⟨[]⟩,⟨[]⟩,⟨[]⟩,⟨[]⟩⟩:GDga))=[]),List.append_nil];exact fin_ret (by simp only[simprocAttr,R0,fn_out,p229,Rs.ev,take_len_self,hl_0,h0_0,ceGDga_zero,ceGDga_zero,w1,w2,eq_true w2l,w4,w5,eq_true w5l,w7,eq_true w7l,w9,w10,eq_true w10l,w12,eq_true w12l,w14,w15,eq_true w15l,w17,eq_true w17l,w19,w20,eq_true w20l,w22,eq_true w22l,w24,w25,eq_true w25l,(List.drop_eq_nil_of_le (Nat.le_of_eq (ceGDga_len (⟨0,0,⟨[]⟩,⟨[]⟩,⟨[]⟩,⟨[]⟩⟩:GDga))):List.drop 594 (ceGDga (⟨0,0,⟨[]⟩,⟨[]⟩,⟨[]⟩,⟨[]⟩⟩:GDga))=[]),List.append_nil])
def F54(a0:Int)(a1:Int)(a2:Int):Option Bool:=
 if a1≤a0 then
  some (decide (a0≤a2))
 else
  some false
theorem s54(a0:Int)(a1:Int)(a2:Int){r:Bool}(hF:F54 a0 a1 a2=some r):ans A 54 [V.int .i64 a0,V.int .i64 a1,V.int .i64 a2]=some (Enc.enc r):=by
 refine ans_of (f:=p54) rfl rfl rfl fun e hl he=>?_;have h0_0:e.at 0=V.int .i64 a0:=he 0 _ rfl;have h1_0:e.at 1=V.int .i64 a1:=he 1 _ rfl;have h2_0:e.at 2=V.int .i64 a2:=he 2 _ rfl;have hl_0:e.length=15:=hl;clear he hl;have h_0:=ai hl_0 (ai h0_0 (ai h1_0 h2_0));show W A b54 e ⟨[],0⟩ _;unfold F54 at hF;by_cases c1:a1≤a0
 ·rw[if_pos c1]at hF
  cases hF;simp only[simprocAttr,R0,b54,h_0,eq_true c1];exact fin_ret (by simp only[simprocAttr,R0,fn_out,p54,Rs.ev,take_len_self,h_0,eq_true c1])
 ·rw[if_neg c1]at hF
  cases hF;simp only[simprocAttr,R0,b54,h_0,eq_false c1];exact fin_ret (by simp only[simprocAttr,R0,fn_out,p54,Rs.ev,take_len_self,h_0,eq_false c1])
def F106_1_B(a0:GDga)(a1:Int)(v6_1:Int)(o1_1:(List Int)):Option (((List Int))⊕((List Int))):=
 (ixI 8 v6_1).bind fun n6=>
if(a0.Degrees.val.getD n6 0)=a1 then
 (app 8 o1_1 [v6_1]).bind fun l11=>
 some (.inl l11)
else
 some (.inl o1_1)
def F106_1_D(a0:GDga)(a1:Int)(v6_1:Int)(o1_1:(List Int)):Option ((List Int)):=
 some o1_1
def F106(a0:GDga)(a1:Int):Option (List Int):=
 (forR 0 a0.Size (F106_1_B a0 a1) (F106_1_D a0 a1) ([]:(List Int))).bind fun zo1_1=>
 some zo1_1
def I106_1(a0:GDga)(a1:Int)(v6_1:Int)(o1_1:(List Int))(e:Env)(h:Heap):Prop:=
 ∃u2 k3:Nat,h=⟨[(0,none),(u2,some (o1_1.map Enc.enc))],k3⟩∧e.length=25∧e.at 1=V.int .i64 a1∧e.at 2=V.iptr (ceGDga a0)∧e.at 5=V.sl 1 u2 0 o1_1.length 1∧e.at 6=V.int .i64 v6_1
def P106_1(a0:GDga)(a1:Int)(zo1_1:(List Int))(x:Ex)(e:Env)(h:Heap):Prop:=
 x= .normal∧∃u2 k3:Nat,h=⟨[(0,none),(u2,some (zo1_1.map Enc.enc))],k3⟩∧e.length=25∧e.at 5=V.sl 1 u2 0 zo1_1.length 1
theorem l106_1(a0:GDga)(a1:Int){lo:Int}{s:(List Int)}{t:(List Int)}(hF:forR lo a0.Size (F106_1_B a0 a1) (F106_1_D a0 a1) s=some t){e:Env}{h:Heap}(hI:I106_1 a0 a1 lo s e h):W A c106_1 e h (P106_1 a0 a1 t):=by
 show W A (.block 0 (.loop false b106_1)) e h _;rw[W_block];refine W_forR hF 2 (by obtain⟨_,_,rfl,_⟩:=hI; rfl) (I106_1 a0 a1) hI ?_ ?_
 ·rintro v6_1 o1_1 e h ⟨u2,k3,rfl,h_1⟩ hlt hw o ho
  unfold F106_1_B at ho;have w5:ofCells none (List.drop 1 (ceGDga a0))=some (V.int .i64 a0.Size):=by first|exact ceGDga_Size_one (a:=_) rfl|(simp only[List.drop_drop]; exact ceGDga_Size_one (by omega))|(show ofCells none (List.drop 0 _)=_; exact ceGDga_Size_one rfl)
  obtain⟨n6,gn6,ho⟩:=bS ho;obtain⟨w7a,w7b,w7c,w7d⟩:=ixI_w gn6;have w8:ofCells none (List.drop n6 (List.drop 2 (ceGDga a0)))=some (V.int .i64 (a0.Degrees.val.getD n6 0)):=by first|exact ceGDga_Degrees_one (i:=n6) (by omega) (by omega)|(simp only[List.drop_drop]; exact ceGDga_Degrees_one (i:=n6) (by omega) (by omega))|(show ofCells none (List.drop 0 _)=_; exact ceGDga_Degrees_one (i:=n6) (by omega) (by omega))
  by_cases c9:(a0.Degrees.val.getD n6 0)=a1
  ·rw[if_pos c9]at ho
   obtain⟨l11,gl11,ho⟩:=bS ho;have w10:=fun a b c d e=> appendV_w (α:=Int) (n:=o1_1.length) (m:=1) (ds:=[V.int .i64 v6_1]) gl11 (by first|rfl|simp) (by first|rfl|simp) rfl a b c d e;have w10l:=app_len gl11;cases ho;simp only[simprocAttr, -Int.reduceNatCast',R0,b106_1,h_1,eq_true hlt,hw,w5,w7a,w7b,w7c,w8,eq_true c9,w10];refine ai rfl (ei _ (ei _ (ai rfl ?_)));simp only[simprocAttr, -Int.reduceNatCast',R0,h_1,eq_true hlt,hw,w5,w7a,w7b,w7c,w8,eq_true c9,w10]
  ·rw[if_neg c9]at ho
   cases ho;simp only[simprocAttr, -Int.reduceNatCast',R0,b106_1,h_1,eq_true hlt,hw,w5,w7a,w7b,w7c,w8,eq_false c9];refine ai rfl (ei _ (ei _ (ai rfl ?_)));simp only[simprocAttr, -Int.reduceNatCast',R0,h_1,eq_true hlt,hw,w5,w7a,w7b,w7c,w8,eq_false c9]
 ·rintro v6_1 o1_1 e h ⟨u2,k3,rfl,h_1⟩ hge t1 ho
  unfold F106_1_D at ho;have w12:ofCells none (List.drop 1 (ceGDga a0))=some (V.int .i64 a0.Size):=by first|exact ceGDga_Size_one (a:=_) rfl|(simp only[List.drop_drop]; exact ceGDga_Size_one (by omega))|(show ofCells none (List.drop 0 _)=_; exact ceGDga_Size_one rfl)
  cases ho;simp only[simprocAttr, -Int.reduceNatCast',R0,b106_1,h_1,eq_false hge,w12];intro ht; subst ht;refine ai rfl (ei _ (ei _ (ai rfl ?_)));simp only[simprocAttr, -Int.reduceNatCast',R0,h_1,eq_false hge,w12]
theorem s106(a0:GDga)(a1:Int){r:List Int}(hF:F106 a0 a1=some r):ans A 106 [V.agg (ceGDga a0),V.int .i64 a1]=some (Enc.enc r):=by
 refine ans_of (f:=p106) rfl rfl rfl fun e hl he=>?_;have h0_0:e.at 0=V.agg (ceGDga a0):=he 0 _ rfl;have h1_0:e.at 1=V.int .i64 a1:=he 1 _ rfl;have hl_0:e.length=25:=hl;clear he hl;show W A b106 e ⟨[],0⟩ _;unfold F106 at hF;obtain⟨zo1_1,gt13,hF⟩:=bS hF;simp only[simprocAttr, -Int.reduceNatCast',R0,b106,hl_0,h0_0,h1_0];refine W.mono (l106_1 a0 a1 gt13 (ei _ (ei _ (ai rfl ?_)))) ?_
 ·simp only[simprocAttr, -Int.reduceNatCast',R0,hl_0,h0_0,h1_0]
 rintro _ e _ ⟨rfl,u2,k3,rfl,hl_4,h5_4⟩;have hE:=Option.some.inj hF; subst hE;simp only[simprocAttr, -Int.reduceNatCast',R0,hl_4,h5_4];exact fin_ret (by simp only[simprocAttr, -Int.reduceNatCast',R0,fn_out,p106,Rs.ev,take_len_self,hl_4,h5_4,frzs (α:=Int) zo1_1,takes (α:=Int) zo1_1])
def F107_1_B(a2:Ar .u8 8)(x1:List Int)(v9_1:Int)(o2_1:(List Int)):Option (((List Int))⊕((List Int))):=
 (getI x1 v9_1).bind fun x7=>
(ixI 8 x7).bind fun n9=>
(chk (a2.val.getD n9 0)).bind fun x12=>
(app 8 o2_1 [x12]).bind fun l14=>
some (.inl l14)
def F107_1_D(a2:Ar .u8 8)(x1:List Int)(v9_1:Int)(o2_1:(List Int)):Option ((List Int)):=
 some o2_1
def F107(a0:GDga)(a1:Int)(a2:Ar .u8 8):Option (List Int):=
 (F106 a0 a1).bind fun x1=>
 (forR 0 (x1.length:Int) (F107_1_B a2 x1) (F107_1_D a2 x1) ([]:(List Int))).bind fun zo2_1=>
 some zo2_1
def I107_1(a2:Ar .u8 8)(x1:List Int)(v9_1:Int)(o2_1:(List Int))(e:Env)(h:Heap):Prop:=
 ∃u4 k5:Nat,h=⟨[(0,none),(0,none),(u4,some (o2_1.map Enc.enc))],k5⟩∧e.length=31∧e.at 5=V.iptr (arc .u8 8 a2.val)∧e.at 7=V.isl (x1.map Enc.enc)∧e.at 8=V.sl 2 u4 0 o2_1.length 1∧e.at 9=V.int .i64 v9_1
def P107_1(a2:Ar .u8 8)(x1:List Int)(zo2_1:(List Int))(x:Ex)(e:Env)(h:Heap):Prop:=
 x= .normal∧∃u4 k5:Nat,h=⟨[(0,none),(0,none),(u4,some (zo2_1.map Enc.enc))],k5⟩∧e.length=31∧e.at 8=V.sl 2 u4 0 zo2_1.length 1
theorem l107_1(a2:Ar .u8 8)(x1:List Int){lo:Int}{s:(List Int)}{t:(List Int)}(hF:forR lo (x1.length:Int) (F107_1_B a2 x1) (F107_1_D a2 x1) s=some t){e:Env}{h:Heap}(hI:I107_1 a2 x1 lo s e h):W A c107_1 e h (P107_1 a2 x1 t):=by
 show W A (.block 0 (.loop false b107_1)) e h _;rw[W_block];refine W_forR hF 3 (by obtain⟨_,_,rfl,_⟩:=hI; rfl) (I107_1 a2 x1) hI ?_ ?_
 ·rintro v9_1 o2_1 e h ⟨u4,k5,rfl,h_3⟩ hlt hw o ho
  unfold F107_1_B at ho;obtain⟨x7,gx7,ho⟩:=bS ho;obtain⟨w8a,w8b⟩:=getI_w gx7;obtain⟨n9,gn9,ho⟩:=bS ho;obtain⟨w10a,w10b,w10c,w10d⟩:=ixI_w gn9;have w11:ofCells none (List.drop n9 (arc .u8 8 a2.val))=some (V.int .u8 (a2.val.getD n9 0)):=by first|exact arc_one' (i:=n9) (by omega) (by omega)|(simp only[List.drop_drop]; exact arc_one' (i:=n9) (by omega) (by omega))|(show ofCells none (List.drop 0 _)=_; exact arc_one' (i:=n9) (by omega) (by omega))
  obtain⟨x12,gx12,ho⟩:=bS ho;have wx12:=chk_w gx12;obtain⟨l14,gl14,ho⟩:=bS ho;have w13:=fun a b c d e=> appendV_w (α:=Int) (n:=o2_1.length) (m:=1) (ds:=[V.int .i64 x12]) gl14 (by first|rfl|simp) (by first|rfl|simp) rfl a b c d e;have w13l:=app_len gl14;cases ho;simp only[simprocAttr, -Int.reduceNatCast',R0,b107_1,h_3,eq_true hlt,hw,w8a,w8b,w10a,w10b,w10c,w11,wx12,w13];refine ai rfl (ei _ (ei _ (ai rfl ?_)));simp only[simprocAttr, -Int.reduceNatCast',R0,h_3,eq_true hlt,hw,w8a,w8b,w10a,w10b,w10c,w11,wx12,w13]
 ·rintro v9_1 o2_1 e h ⟨u4,k5,rfl,h_3⟩ hge t1 ho
  unfold F107_1_D at ho;cases ho;simp only[simprocAttr, -Int.reduceNatCast',R0,b107_1,h_3,eq_false hge];intro ht; subst ht;refine ai rfl (ei _ (ei _ (ai rfl ?_)));simp only[simprocAttr, -Int.reduceNatCast',R0,h_3,eq_false hge]
theorem s107(a0:GDga)(a1:Int)(a2:Ar .u8 8){r:List Int}(hF:F107 a0 a1 a2=some r):ans A 107 [V.agg (ceGDga a0),V.int .i64 a1,V.agg (arc .u8 8 a2.val)]=some (Enc.enc r):=by
 refine ans_of (f:=p107) rfl rfl rfl fun e hl he=>?_;have h0_0:e.at 0=V.agg (ceGDga a0):=he 0 _ rfl;have h1_0:e.at 1=V.int .i64 a1:=he 1 _ rfl;have h2_0:e.at 2=V.agg (arc .u8 8 a2.val):=he 2 _ rfl;have hl_0:e.length=31:=hl;clear he hl;show W A b107 e ⟨[],0⟩ _;unfold F107 at hF;obtain⟨x1,gx1,hF⟩:=bS hF;have w2:ans A 106 [V.agg (ceGDga a0),V.int .i64 a1]=some (V.isl (x1.map Enc.enc)):=s106 a0 a1 gx1;obtain⟨zo2_1,gt15,hF⟩:=bS hF;simp only[simprocAttr, -Int.reduceNatCast',R0,b107,hl_0,h0_0,h1_0,h2_0,w2];refine W.mono (l107_1 a2 x1 gt15 (ei _ (ei _ (ai rfl ?_)))) ?_
 ·simp only[simprocAttr, -Int.reduceNatCast',R0,hl_0,h0_0,h1_0,h2_0,w2]
 rintro _ e _ ⟨rfl,u4,k5,rfl,hl_6,h8_6⟩;have hE:=Option.some.inj hF; subst hE;simp only[simprocAttr, -Int.reduceNatCast',R0,hl_6,h8_6];exact fin_ret (by simp only[simprocAttr, -Int.reduceNatCast',R0,fn_out,p107,Rs.ev,take_len_self,hl_6,h8_6,frzs (α:=Int) zo2_1,takes (α:=Int) zo2_1])
def F65_2_B(a0:GDga)(o2_1:List Int)(o3_1:List (List (List Int)))(o4_1:List (List Int))(q5_0_1:Int)(v4_1:Int)(x14:List Int)(v8_2:Int)(s:(List Int)×(List (List Int))):Option (((List Int)×(List (List Int)))⊕((List Int)×(List (List Int)))):=
 match s with
 |(o6_2,o7_2)=>
  (getI x14 v8_2).bind fun x21=>
  (ixI 8 x21).bind fun n23=>
  (app 8 o6_2 [(a0.Levels.val.getD n23 0)]).bind fun l27=>
  (chk (v4_1 - 1)).bind fun x28=>
  (F107 a0 x28 ⟨(arP a0.Diff.val (n23*8) 8)⟩).bind fun x30=>
  (app 24 o7_2 [x30]).bind fun l33=>
  some (.inl (l27,l33))
def F65_2_D(a0:GDga)(o2_1:List Int)(o3_1:List (List (List Int)))(o4_1:List (List Int))(q5_0_1:Int)(v4_1:Int)(x14:List Int)(v8_2:Int)(s:(List Int)×(List (List Int))):Option ((List Int)×(List (List Int))):=
 match s with
 |(o6_2,o7_2)=>
  some (o6_2,o7_2)
def F65_1_S(a0:GDga)(s:(List Int)×(List (List (List Int)))×(List (List Int))×Int×Int):Option (((List Int)×(List (List (List Int)))×(List (List Int))×Int×Int)⊕((List Int)×(List (List (List Int)))×(List (List Int))×Int)):=
 match s with
 |(o2_1,o3_1,o4_1,q5_0_1,v4_1)=>
  (chk (a0.Size - 1)).bind fun x9=>
  (ixI 8 x9).bind fun n10=>
  if v4_1≤(a0.Degrees.val.getD n10 0)then
   (F106 a0 v4_1).bind fun x14=>
   (forR 0 (x14.length:Int) (F65_2_B a0 o2_1 o3_1 o4_1 q5_0_1 v4_1 x14) (F65_2_D a0 o2_1 o3_1 o4_1 q5_0_1 v4_1 x14) ([],[])).bind fun t34=> match t34 with
    |(zo6_2,zo7_2)=>
     (app 8 o2_1 [(x14.length:Int)]).bind fun l36=>
     (app 24 o4_1 [zo6_2]).bind fun l38=>
     if 0 < v4_1 then
      (app 24 o3_1 [zo7_2]).bind fun l41=>
      (chk (v4_1+1)).bind fun x42=>
      some (.inl (l36,l41,l38,q5_0_1,x42))
     else
      (chk (v4_1+1)).bind fun x43=>
      some (.inl (l36,o3_1,l38,q5_0_1,x43))
  else
   some (.inr (o2_1,o3_1,o4_1,q5_0_1))
def F65(a0:GDga):Option GFiltered:=
 (loopW (F65_1_S a0) ([],[],[],a0.Prime,0)).bind fun t44=> match t44 with
  |(zo2_1,zo3_1,zo4_1,zq5_0_1)=>
   some ⟨⟨zq5_0_1,zo2_1,zo3_1⟩,zo4_1⟩
def I65_2(a0:GDga)(o2_1:List Int)(o3_1:List (List (List Int)))(o4_1:List (List Int))(q5_0_1:Int)(v4_1:Int)(x14:List Int)(u3 u4 u5:Nat)(v8_2:Int)(s:(List Int)×(List (List Int)))(e:Env)(h:Heap):Prop:=
 match s with
 |(o6_2,o7_2)=>
  ∃u17 u18 k19:Nat,h=⟨[(0,none),(1,some [V.int .i64 0,V.nils,V.nils,V.nils]),(u3,some (o2_1.map Enc.enc)),(u4,some (o3_1.map Enc.enc)),(u5,some (o4_1.map Enc.enc)),(5,some [V.int .i64 q5_0_1,V.sl 2 u3 0 o2_1.length 1,V.sl 3 u4 0 o3_1.length 1,V.sl 4 u5 0 o4_1.length 1]),(u17,some (o6_2.map Enc.enc)),(u18,some (o7_2.map Enc.enc))],k19⟩∧e.length=87∧e.at 1=V.iptr (ceGDga a0)∧e.at 2=V.ptr 1 1 0∧e.at 3=V.ptr 5 5 0∧e.at 4=V.int .i64 v4_1∧e.at 5=V.isl (x14.map Enc.enc)∧e.at 6=V.sl 6 u17 0 o6_2.length 1∧e.at 7=V.sl 7 u18 0 o7_2.length 1∧e.at 8=V.int .i64 v8_2
def P65_2(a0:GDga)(o2_1:List Int)(o3_1:List (List (List Int)))(o4_1:List (List Int))(q5_0_1:Int)(v4_1:Int)(x14:List Int)(u3 u4 u5:Nat)(t:(List Int)×(List (List Int)))(x:Ex)(e:Env)(h:Heap):Prop:=
 match t with
 |(zo6_2,zo7_2)=>
  x= .normal∧∃u17 u18 k19:Nat,h=⟨[(0,none),(1,some [V.int .i64 0,V.nils,V.nils,V.nils]),(u3,some (o2_1.map Enc.enc)),(u4,some (o3_1.map Enc.enc)),(u5,some (o4_1.map Enc.enc)),(5,some [V.int .i64 q5_0_1,V.sl 2 u3 0 o2_1.length 1,V.sl 3 u4 0 o3_1.length 1,V.sl 4 u5 0 o4_1.length 1]),(u17,some (zo6_2.map Enc.enc)),(u18,some (zo7_2.map Enc.enc))],k19⟩∧e.length=87∧e.at 1=V.iptr (ceGDga a0)∧e.at 2=V.ptr 1 1 0∧e.at 3=V.ptr 5 5 0∧e.at 4=V.int .i64 v4_1∧e.at 5=V.isl (x14.map Enc.enc)∧e.at 6=V.sl 6 u17 0 zo6_2.length 1∧e.at 7=V.sl 7 u18 0 zo7_2.length 1
theorem l65_2(a0:GDga)(o2_1:List Int)(o3_1:List (List (List Int)))(o4_1:List (List Int))(q5_0_1:Int)(v4_1:Int)(x14:List Int)(u3 u4 u5:Nat){lo:Int}{s:(List Int)×(List (List Int))}{t:(List Int)×(List (List Int))}(hF:forR lo (x14.length:Int) (F65_2_B a0 o2_1 o3_1 o4_1 q5_0_1 v4_1 x14) (F65_2_D a0 o2_1 o3_1 o4_1 q5_0_1 v4_1 x14) s=some t){e:Env}{h:Heap}(hI:I65_2 a0 o2_1 o3_1 o4_1 q5_0_1 v4_1 x14 u3 u4 u5 lo s e h):W A c65_2 e h (P65_2 a0 o2_1 o3_1 o4_1 q5_0_1 v4_1 x14 u3 u4 u5 t):=by
 show W A (.block 2 (.loop false b65_2)) e h _;rw[W_block];refine W_forR hF 8 (by rcases s with⟨_,_⟩; obtain⟨_,_,_,rfl,_⟩:=hI; rfl) (I65_2 a0 o2_1 o3_1 o4_1 q5_0_1 v4_1 x14 u3 u4 u5) hI ?_ ?_
 ·rintro v8_2 ⟨o6_2,o7_2⟩ e h ⟨u17,u18,k19,rfl,h_16⟩ hlt hw o ho
  unfold F65_2_B at ho;dsimp only at ho;obtain⟨x21,gx21,ho⟩:=bS ho;obtain⟨w22a,w22b⟩:=getI_w gx21;obtain⟨n23,gn23,ho⟩:=bS ho;obtain⟨w24a,w24b,w24c,w24d⟩:=ixI_w gn23;have w25:ofCells none (List.drop n23 (List.drop 10 (ceGDga a0)))=some (V.int .i64 (a0.Levels.val.getD n23 0)):=by first|exact ceGDga_Levels_one (i:=n23) (by omega) (by omega)|(simp only[List.drop_drop]; exact ceGDga_Levels_one (i:=n23) (by omega) (by omega))|(show ofCells none (List.drop 0 _)=_; exact ceGDga_Levels_one (i:=n23) (by omega) (by omega))
  obtain⟨l27,gl27,ho⟩:=bS ho;have w26:=fun a b c d e=> appendV_w (α:=Int) (n:=o6_2.length) (m:=1) (ds:=[V.int .i64 (a0.Levels.val.getD n23 0)]) gl27 (by first|rfl|simp) (by first|rfl|simp) rfl a b c d e;have w26l:=app_len gl27;obtain⟨x28,gx28,ho⟩:=bS ho;have wx28:=chk_w gx28;have w29:List.take 8 (List.drop (n23*8) (List.drop 18 (ceGDga a0)))=arc .u8 8 (arP a0.Diff.val (n23*8) 8):=by first|exact ceGDga_Diff_part (i:=n23*8) (m:=8) (by omega) (by omega)|(simp only[List.drop_drop]; exact ceGDga_Diff_part (i:=n23*8) (m:=8) (by omega) (by omega))|(show List.take _ (List.drop 0 _)=_; exact ceGDga_Diff_part (i:=n23*8) (m:=8) (by omega) (by omega))
  have w29l:8≤List.length (List.drop (n23*8) (List.drop 18 (ceGDga a0))):=by simp only[List.length_drop,arc_len,ceGDga_len]; omega
  obtain⟨x30,gx30,ho⟩:=bS ho;have w31:ans A 107 [V.agg (ceGDga a0),V.int .i64 x28,V.agg (arc .u8 8 (arP a0.Diff.val (n23*8) 8))]=some (V.isl (x30.map Enc.enc)):=s107 a0 x28 ⟨(arP a0.Diff.val (n23*8) 8)⟩ gx30;obtain⟨l33,gl33,ho⟩:=bS ho;have w32:=fun a b c d e=> appendV_w (α:=List Int) (n:=o7_2.length) (m:=1) (ds:=[V.isl (x30.map Enc.enc)]) gl33 (by first|rfl|simp) (by first|rfl|simp) rfl a b c d e;have w32l:=app_len gl33;cases ho;simp only[simprocAttr, -Int.reduceNatCast',R0,b65_2,h_16,eq_true hlt,hw,w22a,w22b,w24a,w24b,w24c,w25,w26,wx28,w29,eq_true w29l,w31,w32];refine ai rfl (ei _ (ei _ (ei _ (ai rfl ?_))));simp only[simprocAttr, -Int.reduceNatCast',R0,h_16,eq_true hlt,hw,w22a,w22b,w24a,w24b,w24c,w25,w26,wx28,w29,eq_true w29l,w31,w32]
 ·rintro v8_2 ⟨o6_2,o7_2⟩ e h ⟨u17,u18,k19,rfl,h_16⟩ hge t1 ho
  unfold F65_2_D at ho;dsimp only at ho;cases ho;simp only[simprocAttr, -Int.reduceNatCast',R0,b65_2,h_16,eq_false hge];intro ht; subst ht;refine ai rfl (ei _ (ei _ (ei _ (ai rfl ?_))));simp only[simprocAttr, -Int.reduceNatCast',R0,h_16,eq_false hge]
def I65_1(a0:GDga)(s:(List Int)×(List (List (List Int)))×(List (List Int))×Int×Int)(e:Env)(h:Heap):Prop:=
 match s with
 |(o2_1,o3_1,o4_1,q5_0_1,v4_1)=>
  ∃u3 u4 u5 k6:Nat,h=⟨[(0,none),(1,some [V.int .i64 0,V.nils,V.nils,V.nils]),(u3,some (o2_1.map Enc.enc)),(u4,some (o3_1.map Enc.enc)),(u5,some (o4_1.map Enc.enc)),(5,some [V.int .i64 q5_0_1,V.sl 2 u3 0 o2_1.length 1,V.sl 3 u4 0 o3_1.length 1,V.sl 4 u5 0 o4_1.length 1])],k6⟩∧e.length=87∧e.at 1=V.iptr (ceGDga a0)∧e.at 2=V.ptr 1 1 0∧e.at 3=V.ptr 5 5 0∧e.at 4=V.int .i64 v4_1
def P65_1(a0:GDga)(t:(List Int)×(List (List (List Int)))×(List (List Int))×Int)(x:Ex)(e:Env)(h:Heap):Prop:=
 match t with
 |(zo2_1,zo3_1,zo4_1,zq5_0_1)=>
  x= .normal∧∃u3 u4 u5 k6:Nat,h=⟨[(0,none),(1,some [V.int .i64 0,V.nils,V.nils,V.nils]),(u3,some (zo2_1.map Enc.enc)),(u4,some (zo3_1.map Enc.enc)),(u5,some (zo4_1.map Enc.enc)),(5,some [V.int .i64 zq5_0_1,V.sl 2 u3 0 zo2_1.length 1,V.sl 3 u4 0 zo3_1.length 1,V.sl 4 u5 0 zo4_1.length 1])],k6⟩∧e.length=87∧e.at 2=V.ptr 1 1 0∧e.at 3=V.ptr 5 5 0
theorem l65_1(a0:GDga){s:(List Int)×(List (List (List Int)))×(List (List Int))×Int×Int}{t:(List Int)×(List (List (List Int)))×(List (List Int))×Int}(hF:loopW (F65_1_S a0) s=some t){e:Env}{h:Heap}(hI:I65_1 a0 s e h):W A c65_1 e h (P65_1 a0 t):=by
 show W A (.block 0 (.loop false b65_1)) e h _;rw[W_block];refine W_loop hF 6 (by rcases s with⟨_,_,_,_,_⟩; obtain⟨_,_,_,_,rfl,_⟩:=hI; rfl) (I65_1 a0) hI ?_
 ·rintro⟨o2_1,o3_1,o4_1,q5_0_1,v4_1⟩ e h ⟨u3,u4,u5,k6,rfl,h_2⟩ o ho
  unfold F65_1_S at ho;dsimp only at ho;have w8:ofCells none (List.drop 1 (ceGDga a0))=some (V.int .i64 a0.Size):=by first|exact ceGDga_Size_one (a:=_) rfl|(simp only[List.drop_drop]; exact ceGDga_Size_one (by omega))|(show ofCells none (List.drop 0 _)=_; exact ceGDga_Size_one rfl)
  obtain⟨x9,gx9,ho⟩:=bS ho;have wx9:=chk_w gx9;obtain⟨n10,gn10,ho⟩:=bS ho;obtain⟨w11a,w11b,w11c,w11d⟩:=ixI_w gn10;have w12:ofCells none (List.drop n10 (List.drop 2 (ceGDga a0)))=some (V.int .i64 (a0.Degrees.val.getD n10 0)):=by first|exact ceGDga_Degrees_one (i:=n10) (by omega) (by omega)|(simp only[List.drop_drop]; exact ceGDga_Degrees_one (i:=n10) (by omega) (by omega))|(show ofCells none (List.drop 0 _)=_; exact ceGDga_Degrees_one (i:=n10) (by omega) (by omega))
  by_cases c13:v4_1≤(a0.Degrees.val.getD n10 0)
  ·rw[if_pos c13]at ho
   obtain⟨x14,gx14,ho⟩:=bS ho;have w15:ans A 106 [V.agg (ceGDga a0),V.int .i64 v4_1]=some (V.isl (x14.map Enc.enc)):=s106 a0 v4_1 gx14;obtain⟨⟨zo6_2,zo7_2⟩,gt34,ho⟩:=bS ho;dsimp only at ho;simp only[simprocAttr, -Int.reduceNatCast',R0,b65_1,h_2,w8,wx9,w11a,w11b,w11c,w12,eq_true c13,w15];refine W.mono (l65_2 a0 o2_1 o3_1 o4_1 q5_0_1 v4_1 x14 u3 u4 u5 gt34 (ei _ (ei _ (ei _ (ai rfl ?_))))) ?_
   ·simp only[simprocAttr, -Int.reduceNatCast',R0,h_2,w8,wx9,w11a,w11b,w11c,w12,eq_true c13,w15]
   rintro _ e _ ⟨rfl,u17,u18,k19,rfl,h_20⟩;obtain⟨l36,gl36,ho⟩:=bS ho;have w35:=fun a b c d e=> appendV_w (α:=Int) (n:=o2_1.length) (m:=1) (ds:=[V.int .i64 (x14.length:Int)]) gl36 (by first|rfl|simp) (by first|rfl|simp) rfl a b c d e;have w35l:=app_len gl36;obtain⟨l38,gl38,ho⟩:=bS ho;have w37:=fun a b c d e=> appendV_w (α:=List Int) (n:=o4_1.length) (m:=1) (ds:=[V.isl (zo6_2.map Enc.enc)]) gl38 (by first|rfl|simp) (by first|rfl|simp) rfl a b c d e;have w37l:=app_len gl38;by_cases c39:0 < v4_1
   ·rw[if_pos c39]at ho
    obtain⟨l41,gl41,ho⟩:=bS ho;have w40:=fun a b c d e=> appendV_w (α:=List (List Int)) (n:=o3_1.length) (m:=1) (ds:=[V.isl (zo7_2.map Enc.enc)]) gl41 (by first|rfl|simp) (by first|rfl|simp) rfl a b c d e;have w40l:=app_len gl41;obtain⟨x42,gx42,ho⟩:=bS ho;have wx42:=chk_w gx42;cases ho;simp only[simprocAttr, -Int.reduceNatCast',R0,h_20,eq_true c13,w35,takes (α:=Int) zo6_2,w37,eq_true c39,takes (α:=List Int) zo7_2,w40,wx42];refine ai rfl (ei _ (ei _ (ei _ (ei _ (ai rfl ?_)))));simp only[simprocAttr, -Int.reduceNatCast',R0,h_20,eq_true c13,w35,takes (α:=Int) zo6_2,w37,eq_true c39,takes (α:=List Int) zo7_2,w40,wx42]
   ·rw[if_neg c39]at ho
    obtain⟨x43,gx43,ho⟩:=bS ho;have wx43:=chk_w gx43;cases ho;simp only[simprocAttr, -Int.reduceNatCast',R0,h_20,eq_true c13,w35,takes (α:=Int) zo6_2,w37,eq_false c39,wx43];refine ai rfl (ei _ (ei _ (ei _ (ei _ (ai rfl ?_)))));simp only[simprocAttr, -Int.reduceNatCast',R0,h_20,eq_true c13,w35,takes (α:=Int) zo6_2,w37,eq_false c39,wx43]
  ·rw[if_neg c13]at ho
   cases ho;simp only[simprocAttr, -Int.reduceNatCast',R0,b65_1,h_2,w8,wx9,w11a,w11b,w11c,w12,eq_false c13];intro ht; subst ht;simp only[simprocAttr, -Int.reduceNatCast',RR,RB];refine ai rfl (ei _ (ei _ (ei _ (ei _ (ai rfl ?_)))));simp only[simprocAttr, -Int.reduceNatCast',R0,h_2,w8,wx9,w11a,w11b,w11c,w12,eq_false c13]
theorem s65(a0:GDga){r:GFiltered}(hF:F65 a0=some r):ans A 65 [V.agg (ceGDga a0)]=some (Enc.enc r):=by
 refine ans_of (f:=p65) rfl rfl rfl fun e hl he=>?_;have h0_0:e.at 0=V.agg (ceGDga a0):=he 0 _ rfl;have hl_0:e.length=87:=hl;clear he hl;show W A b65 e ⟨[],0⟩ _;unfold F65 at hF;have w1:ofCells none (ceGDga a0)=some (V.int .i64 a0.Prime):=by first|exact ceGDga_Prime_one (a:=_) rfl|(simp only[List.drop_drop]; exact ceGDga_Prime_one (by omega))|(show ofCells none (List.drop 0 _)=_; exact ceGDga_Prime_one rfl)
 obtain⟨⟨zo2_1,zo3_1,zo4_1,zq5_0_1⟩,gt44,hF⟩:=bS hF;dsimp only at hF;simp only[simprocAttr,R0,b65,hl_0,h0_0,w1];refine W.mono (l65_1 a0 gt44 (ei _ (ei _ (ei _ (ei _ (ai rfl ?_)))))) ?_
 ·simp only[simprocAttr,R0,hl_0,h0_0,w1]
 rintro _ e _ ⟨rfl,u3,u4,u5,k6,rfl,h_7⟩;cases hF;simp only[simprocAttr,R0,h_7];exact fin_ret (by simp only[simprocAttr,R0,fn_out,p65,Rs.ev,take_len_self,h_7,frzs (α:=Int) zo2_1,takes (α:=Int) zo2_1,frzs (α:=List (List Int)) zo3_1,takes (α:=List (List Int)) zo3_1,frzs (α:=List Int) zo4_1,takes (α:=List Int) zo4_1])
def F81_1_B(a0:List Int)(v3_1:Int)(s:Unit):Option ((Unit)⊕((Unit)⊕Int)):=
 (getI a0 v3_1).bind fun x4=>
if x4=0 then
 some (.inl ())
else
 some (.inr (.inr v3_1))
def F81_1_D(a0:List Int)(v3_1:Int)(s:Unit):Option ((Unit)⊕Int):=
 some (.inl ())
def F81(a0:List Int):Option Int:=
 (forR 0 (a0.length:Int) (F81_1_B a0) (F81_1_D a0) ()).bind fun t7=> match t7 with
  | .inl _=>
   some (-1)
  | .inr r8=> some r8
def I81_1(a0:List Int)(v3_1:Int)(s:Unit)(e:Env)(h:Heap):Prop:=
 ∃k2:Nat,h=⟨[],k2⟩∧e.length=16∧e.at 0=V.isl (a0.map Enc.enc)∧e.at 3=V.int .i64 v3_1
def P81_1(a0:List Int)(t:(Unit)⊕Int)(x:Ex)(e:Env)(h:Heap):Prop:=
 match t with
 | .inl _=> x= .normal∧∃k2:Nat,h=⟨[],k2⟩∧e.length=16
 | .inr r=> x= .ret∧Fin p81 (Enc.enc r) .ret e h
theorem l81_1(a0:List Int){lo:Int}{s:Unit}{t:(Unit)⊕Int}(hF:forR lo (a0.length:Int) (F81_1_B a0) (F81_1_D a0) s=some t){e:Env}{h:Heap}(hI:I81_1 a0 lo s e h):W A c81_1 e h (P81_1 a0 t):=by
 show W A (.block 0 (.loop false b81_1)) e h _;rw[W_block];refine W_forR hF 0 (by obtain⟨_,rfl,_⟩:=hI; rfl) (I81_1 a0) hI ?_ ?_
 ·rintro v3_1 _ e h ⟨k2,rfl,h_1⟩ hlt hw o ho
  unfold F81_1_B at ho;obtain⟨x4,gx4,ho⟩:=bS ho;obtain⟨w5a,w5b⟩:=getI_w gx4;by_cases c6:x4=0
  ·rw[if_pos c6]at ho
   cases ho;simp only[simprocAttr,R0,b81_1,h_1,eq_true hlt,hw,w5a,w5b,eq_true c6];refine ai rfl (ei _ (ai rfl ?_));simp only[simprocAttr,R0,h_1,eq_true hlt,hw,w5a,w5b,eq_true c6]
  ·rw[if_neg c6]at ho
   cases ho;simp only[simprocAttr,R0,b81_1,h_1,eq_true hlt,hw,w5a,w5b,eq_false c6];intro ht; subst ht;simp only[simprocAttr,RR,RB];exact ai rfl (fin_ret (by simp only[simprocAttr,R0,fn_out,p81,Rs.ev,take_len_self,h_1,eq_true hlt,hw,w5a,w5b,eq_false c6]))
 ·rintro v3_1 _ e h ⟨k2,rfl,h_1⟩ hge t1 ho
  unfold F81_1_D at ho;cases ho;simp only[simprocAttr,R0,b81_1,h_1,eq_false hge];intro ht; subst ht;refine ai rfl (ei _ (ai rfl ?_));simp only[simprocAttr,R0,h_1,eq_false hge]
theorem s81(a0:List Int){r:Int}(hF:F81 a0=some r):ans A 81 [V.isl (a0.map Enc.enc)]=some (Enc.enc r):=by
 refine ans_of (f:=p81) rfl rfl rfl fun e hl he=>?_;have h0_0:e.at 0=V.isl (a0.map Enc.enc):=he 0 _ rfl;have hl_0:e.length=16:=hl;clear he hl;have h_0:=ai hl_0 h0_0;show W A b81 e ⟨[],0⟩ _;unfold F81 at hF;obtain⟨t7,gt7,hF⟩:=bS hF;rcases t7 with _|r8
 ·dsimp only at hF
  simp only[simprocAttr,R0,b81,h_0];refine W.mono (l81_1 a0 gt7 (ei _ (ai rfl ?_))) ?_
  ·simp only[simprocAttr,R0,h_0]
  rintro _ e _ ⟨rfl,k2,rfl,hl_3⟩;cases hF;simp only[simprocAttr,R0,hl_3];exact fin_ret (by simp only[simprocAttr,R0,fn_out,p81,Rs.ev,take_len_self,hl_3])
 ·dsimp only at hF
  cases hF;simp only[simprocAttr,R0,b81,h_0];refine W.mono (l81_1 a0 gt7 (ei _ (ai rfl ?_))) ?_
  ·simp only[simprocAttr,R0,h_0]
  rintro _ e h ⟨rfl,hq⟩;simp only[simprocAttr,RR,RB];exact hq
def F94(a0:List Int):Option (List Int):=
 (app 8 ([]:List Int) a0).bind fun l2=>
 some l2
theorem s94(a0:List Int){r:List Int}(hF:F94 a0=some r):ans A 94 [V.isl (a0.map Enc.enc)]=some (Enc.enc r):=by
 refine ans_of (f:=p94) rfl rfl rfl fun e hl he=>?_;have h0_0:e.at 0=V.isl (a0.map Enc.enc):=he 0 _ rfl;have hl_0:e.length=6:=hl;clear he hl;show W A b94 e ⟨[],0⟩ _;unfold F94 at hF;obtain⟨l2,gl2,hF⟩:=bS hF;have w1:=fun ents key uid clk he=> appendV_w (α:=Int) (n:=0) (m:=a0.length) (ds:=List.map Enc.enc a0) gl2 (by first|rfl|simp only[List.length_nil]) (by first|rfl|simp only[List.length_nil]) rfl ents key uid clk he;have w1l:=app_len gl2;have hE:=Option.some.inj hF; subst hE;simp only[simprocAttr, -Int.reduceNatCast',R0,b94,hl_0,h0_0,w1];exact fin_ret (by simp only[simprocAttr, -Int.reduceNatCast',R0,fn_out,p94,Rs.ev,take_len_self,hl_0,h0_0,w1,frzs (α:=Int) l2,takes (α:=Int) l2])
theorem t94(a0:List Int){r:List Int}(hF:F94 a0=some r):tans A 94 [1] [V.isl (a0.map Enc.enc)]=some (Enc.enc r):=by
 refine tans_of (f:=p94) rfl rfl rfl fun e hl he=>?_;have h0_0:e.at 0=V.isl (a0.map Enc.enc):=he 0 _ rfl;have hl_0:e.length=6:=hl;clear he hl;show W A b94 e ⟨[],0⟩ _;unfold F94 at hF;obtain⟨l2,gl2,hF⟩:=bS hF;have w1:=fun ents key uid clk he=> appendV_w (α:=Int) (n:=0) (m:=a0.length) (ds:=List.map Enc.enc a0) gl2 (by first|rfl|simp only[List.length_nil]) (by first|rfl|simp only[List.length_nil]) rfl ents key uid clk he;have w1l:=app_len gl2;have hE:=Option.some.inj hF; subst hE;simp only[simprocAttr, -Int.reduceNatCast',R0,b94,hl_0,h0_0,w1];exact tfin_ret (by simp only[simprocAttr, -Int.reduceNatCast',R0,fn_out,p94,Rs.ev,take_len_self,hl_0,h0_0,w1,frzs (α:=Int) l2,takes (α:=Int) l2])
def F127(a0:Int)(a1:Int):Option Int:=
 (remI a1 a0).bind fun x1=>
 (chk (x1+a0)).bind fun x3=>
 (remI x3 a0).bind fun x4=>
 some x4
theorem s127(a0:Int)(a1:Int){r:Int}(hF:F127 a0 a1=some r):ans A 127 [V.int .i64 a0,V.int .i64 a1]=some (Enc.enc r):=by
 refine ans_of (f:=p127) rfl rfl rfl fun e hl he=>?_;have h0_0:e.at 0=V.int .i64 a0:=he 0 _ rfl;have h1_0:e.at 1=V.int .i64 a1:=he 1 _ rfl;have hl_0:e.length=12:=hl;clear he hl;show W A b127 e ⟨[],0⟩ _;unfold F127 at hF;obtain⟨x1,gx1,hF⟩:=bS hF;obtain⟨w2a,w2b⟩:=rem_w gx1;obtain⟨x3,gx3,hF⟩:=bS hF;have wx3:=chk_w gx3;obtain⟨x4,gx4,hF⟩:=bS hF;obtain⟨w5a,w5b⟩:=rem_w gx4;cases hF;simp only[simprocAttr,R0,b127,hl_0,h0_0,h1_0,eq_false w2a,w2b,wx3,eq_false w5a,w5b];exact fin_ret (by simp only[simprocAttr,R0,fn_out,p127,Rs.ev,take_len_self,hl_0,h0_0,h1_0,eq_false w2a,w2b,wx3,eq_false w5a,w5b])
def F136_1_B(a0:Int)(a1:List Int)(a2:List Int)(a3:Int)(v10_1:Int)(o0_1:(List Int)):Option (((List Int))⊕((List Int))):=
 (getI a1 v10_1).bind fun x5=>
(getI a2 v10_1).bind fun x7=>
(chk (a3*x7)).bind fun x9=>
(chk (x5 - x9)).bind fun x10=>
(F127 a0 x10).bind fun x11=>
(app 8 o0_1 [x11]).bind fun l14=>
some (.inl l14)
def F136_1_D(a0:Int)(a1:List Int)(a2:List Int)(a3:Int)(v10_1:Int)(o0_1:(List Int)):Option ((List Int)):=
 some o0_1
def F136(a0:Int)(a1:List Int)(a2:List Int)(a3:Int):Option (List Int):=
 (forR 0 (a1.length:Int) (F136_1_B a0 a1 a2 a3) (F136_1_D a0 a1 a2 a3) ([]:(List Int))).bind fun zo0_1=>
 some zo0_1
def I136_1(a0:Int)(a1:List Int)(a2:List Int)(a3:Int)(v10_1:Int)(o0_1:(List Int))(e:Env)(h:Heap):Prop:=
 ∃u2 k3:Nat,h=⟨[(u2,some (o0_1.map Enc.enc))],k3⟩∧e.length=35∧e.at 0=V.int .i64 a0∧e.at 1=V.isl (a1.map Enc.enc)∧e.at 2=V.isl (a2.map Enc.enc)∧e.at 3=V.int .i64 a3∧e.at 9=V.sl 0 u2 0 o0_1.length 1∧e.at 10=V.int .i64 v10_1
def P136_1(a0:Int)(a1:List Int)(a2:List Int)(a3:Int)(zo0_1:(List Int))(x:Ex)(e:Env)(h:Heap):Prop:=
 x= .normal∧∃u2 k3:Nat,h=⟨[(u2,some (zo0_1.map Enc.enc))],k3⟩∧e.length=35∧e.at 9=V.sl 0 u2 0 zo0_1.length 1
theorem l136_1(a0:Int)(a1:List Int)(a2:List Int)(a3:Int){lo:Int}{s:(List Int)}{t:(List Int)}(hF:forR lo (a1.length:Int) (F136_1_B a0 a1 a2 a3) (F136_1_D a0 a1 a2 a3) s=some t){e:Env}{h:Heap}(hI:I136_1 a0 a1 a2 a3 lo s e h):W A c136_1 e h (P136_1 a0 a1 a2 a3 t):=by
 show W A (.block 0 (.loop false b136_1)) e h _;rw[W_block];refine W_forR hF 1 (by obtain⟨_,_,rfl,_⟩:=hI; rfl) (I136_1 a0 a1 a2 a3) hI ?_ ?_
 ·rintro v10_1 o0_1 e h ⟨u2,k3,rfl,h_1⟩ hlt hw o ho
  unfold F136_1_B at ho;obtain⟨x5,gx5,ho⟩:=bS ho;obtain⟨w6a,w6b⟩:=getI_w gx5;obtain⟨x7,gx7,ho⟩:=bS ho;obtain⟨w8a,w8b⟩:=getI_w gx7;obtain⟨x9,gx9,ho⟩:=bS ho;have wx9:=chk_w gx9;obtain⟨x10,gx10,ho⟩:=bS ho;have wx10:=chk_w gx10;obtain⟨x11,gx11,ho⟩:=bS ho;have w12:ans A 127 [V.int .i64 a0,V.int .i64 x10]=some (V.int .i64 x11):=s127 a0 x10 gx11;obtain⟨l14,gl14,ho⟩:=bS ho;have w13:=fun a b c d e=> appendV_w (α:=Int) (n:=o0_1.length) (m:=1) (ds:=[V.int .i64 x11]) gl14 (by first|rfl|simp) (by first|rfl|simp) rfl a b c d e;have w13l:=app_len gl14;cases ho;simp only[simprocAttr,R0,b136_1,h_1,eq_true hlt,hw,w6a,w6b,w8a,w8b,wx9,wx10,w12,w13];refine ai rfl (ei _ (ei _ (ai rfl ?_)));simp only[simprocAttr,R0,h_1,eq_true hlt,hw,w6a,w6b,w8a,w8b,wx9,wx10,w12,w13]
 ·rintro v10_1 o0_1 e h ⟨u2,k3,rfl,h_1⟩ hge t1 ho
  unfold F136_1_D at ho;cases ho;simp only[simprocAttr,R0,b136_1,h_1,eq_false hge];intro ht; subst ht;refine ai rfl (ei _ (ei _ (ai rfl ?_)));simp only[simprocAttr,R0,h_1,eq_false hge]
theorem t136(a0:Int)(a1:List Int)(a2:List Int)(a3:Int){r:List Int}(hF:F136 a0 a1 a2 a3=some r):tans A 136 [1] [V.int .i64 a0,V.isl (a1.map Enc.enc),V.isl (a2.map Enc.enc),V.int .i64 a3]=some (Enc.enc r):=by
 refine tans_of (f:=p136) rfl rfl rfl fun e hl he=>?_;have h0_0:e.at 0=V.int .i64 a0:=he 0 _ rfl;have h1_0:e.at 1=V.isl (a1.map Enc.enc):=he 1 _ rfl;have h2_0:e.at 2=V.isl (a2.map Enc.enc):=he 2 _ rfl;have h3_0:e.at 3=V.int .i64 a3:=he 3 _ rfl;have hl_0:e.length=35:=hl;clear he hl;show W A b136 e ⟨[],0⟩ _;unfold F136 at hF;obtain⟨zo0_1,gt15,hF⟩:=bS hF;simp only[simprocAttr, -Int.reduceNatCast',R0,b136,hl_0,h0_0,h1_0,h2_0,h3_0];refine W.mono (l136_1 a0 a1 a2 a3 gt15 (ei _ (ei _ (ai rfl ?_)))) ?_
 ·simp only[simprocAttr, -Int.reduceNatCast',R0,hl_0,h0_0,h1_0,h2_0,h3_0]
 rintro _ e _ ⟨rfl,u2,k3,rfl,hl_4,h9_4⟩;have hE:=Option.some.inj hF; subst hE;simp only[simprocAttr, -Int.reduceNatCast',R0,hl_4,h9_4];exact tfin_ret (by simp only[simprocAttr, -Int.reduceNatCast',R0,fn_out,p136,Rs.ev,take_len_self,hl_4,h9_4,frzs (α:=Int) zo0_1,takes (α:=Int) zo0_1])
def F134_1_B(a0:Int)(a1:List (List Int))(v8_1:Int)(v7_1:(List Int)):Option (((List Int))⊕((List Int))):=
 (getI a1 v8_1).bind fun x6=>
(F81 x6).bind fun x8=>
(getI v7_1 x8).bind fun x10=>
(F136 a0 v7_1 x6 x10).bind fun x12=>
some (.inl x12)
def F134_1_D(a0:Int)(a1:List (List Int))(v8_1:Int)(v7_1:(List Int)):Option ((List Int)):=
 some v7_1
def F134(a0:Int)(a1:List (List Int))(a2:List Int):Option (List Int):=
 (F94 a2).bind fun x1=>
 (forR 0 (a1.length:Int) (F134_1_B a0 a1) (F134_1_D a0 a1) x1).bind fun zv7_1=>
 some zv7_1
theorem d134(a0:Int)(a1:List (List Int))(a2:List Int){r:List Int}(hF:F134 a0 a1 a2=some r):∃v h',res A 134 [V.int .i64 a0,V.isl (a1.map Enc.enc),V.isl (a2.map Enc.enc)] Heap.empty=some (v,h')∧∃K,Deep.rep h' v r K:=by
 refine res_dp (f:=p134) rfl rfl rfl fun e hl he=>?_;have h0_0:e.at 0=V.int .i64 a0:=he 0 _ rfl;have h1_0:e.at 1=V.isl (a1.map Enc.enc):=he 1 _ rfl;have h2_0:e.at 2=V.isl (a2.map Enc.enc):=he 2 _ rfl;have hl_0:e.length=33:=hl;clear he hl;show W A b134 e ⟨[],0⟩ _;unfold F134 at hF;obtain⟨o,go,hF⟩:=bS hF;have wo:tans A 94 [1] [V.isl (a2.map Enc.enc)]=some (V.isl (o.map Enc.enc)):=t94 a2 go;obtain⟨t,gt,hF⟩:=bS hF;cases hF;simp only[simprocAttr,R1,b134,hl_0,h0_0,h1_0,h2_0,wo,callM_tans,thaw_one];show W A (.block 0 (.loop true b134_1)) _ _ _;rw[W_block];refine W_forR gt _ rfl (fun i q e h=>∃k u,h.ents[k]? =some (u,some (q.map Enc.enc))∧e.length=33∧e.at 0=V.int .i64 a0∧e.at 1=V.isl (a1.map Enc.enc)∧e.at 7=V.sl k u 0 q.length 1∧e.at 8=V.int .i64 i) ?_ ?_ ?_
 ·refine⟨0,0,rfl,?_⟩
  simp only[simprocAttr,R1,hl_0,h0_0,h1_0,h2_0]
 ·clear hl_0 h0_0 h1_0 h2_0
  rintro i q e ⟨E,c⟩ ⟨k,u,g1,h_1⟩ hlt hw s' ho;unfold F134_1_B at ho;simp only at g1;obtain⟨x6,gx6,ho⟩:=bS ho;obtain⟨x6a,x6b⟩:=getI_w gx6;obtain⟨x8,gx8,ho⟩:=bS ho;have w8:ans A 81 [V.isl (x6.map Enc.enc)]=some (V.int .i64 x8):=s81 x6 gx8;obtain⟨x10,gx10,ho⟩:=bS ho;obtain⟨x10a,x10b⟩:=getI_w gx10;have x10c:=getI_lt gx10;obtain⟨x12,gx12,ho⟩:=bS ho;have w12:tans A 136 [1] [V.int .i64 a0,V.isl (q.map Enc.enc),V.isl (x6.map Enc.enc),V.int .i64 x10]=some (V.isl (x12.map Enc.enc)):=t136 a0 q x6 x10 gx12;cases ho;have wfz:frz ⟨E,c⟩ 16 (V.sl k u 0 q.length 1)=some (V.isl (q.map Enc.enc)):=frz_row g1;have wbr:=bare_one (α:=Int) x12;have o10:ofCells none (List.drop x8.toNat (q.map Enc.enc))=some (V.int .i64 x10):=ofCells_drop (by rw[List.getElem?_map,x10b]; rfl);simp only[simprocAttr,R1,b134_1,h_1,eq_true hlt,hw,x6a,x6b,w8,x10a,eq_true x10c,g1,o10,wfz,w12,wbr,callM_tans,thaw_one];refine ai rfl ⟨_,_,get_last _ _,?_⟩;simp only[simprocAttr,R1,h_1,hw]
 ·clear hl_0 h0_0 h1_0 h2_0
  rintro i q e ⟨E,c⟩ ⟨k,u,g1,h_1⟩ hge t1 ho;unfold F134_1_D at ho;cases ho;simp only at g1;simp only[simprocAttr,R1,b134_1,h_1,eq_false hge];intro ht; subst ht;refine ai (fun _=> trivial) ⟨_,?_,fun x=> x=k,int_row (l:=q) g1 fun x=> Iff.rfl⟩;simp only[simprocAttr,R1,fn_out,p134,Rs.ev,h_1]
theorem t134(a0:Int)(a1:List (List Int))(a2:List Int){r:List Int}(hF:F134 a0 a1 a2=some r):tans A 134 [1] [V.int .i64 a0,V.isl (a1.map Enc.enc),V.isl (a2.map Enc.enc)]=some (Enc.enc r):=tans_of_deep (α:=List Int) (by decide) (d134 a0 a1 a2 hF)
theorem s134(a0:Int)(a1:List (List Int))(a2:List Int){r:List Int}(hF:F134 a0 a1 a2=some r):ans A 134 [V.int .i64 a0,V.isl (a1.map Enc.enc),V.isl (a2.map Enc.enc)]=some (Enc.enc r):=ans_of_deep (α:=List Int) (by decide) (d134 a0 a1 a2 hF)
def F104(a0:Int):Option (Ar .u8 8):=
 (ixI 8 a0).bind fun n3=>
 (some (arW 8 [] n3 1)).bind fun l5=>
 some ⟨l5⟩
theorem s104(a0:Int){r:Ar .u8 8}(hF:F104 a0=some r):ans A 104 [V.int .i64 a0]=some (Enc.enc r):=by
 refine ans_of (f:=p104) rfl rfl rfl fun e hl he=>?_;have h0_0:e.at 0=V.int .i64 a0:=he 0 _ rfl;have hl_0:e.length=8:=hl;clear he hl;show W A b104 e ⟨[],0⟩ _;unfold F104 at hF;have w2:List.drop 8 (arc .u8 8 [])=[]:=List.drop_eq_nil_of_le (by rw[arc_len]; exact Nat.le_refl _);obtain⟨n3,gn3,hF⟩:=bS hF;obtain⟨w4a,w4b,w4c,w4d⟩:=ixI_w gn3;obtain⟨l5,gl5,hF⟩:=bS hF;have w6:List.take n3 (arc .u8 8 [])++[V.int .u8 1]++List.drop (n3+1) (arc .u8 8 [])=arc .u8 8 l5:=by rw[←Option.some.inj gl5]; exact arc_set (by omega)
 have w6l:n3+1≤8:=by omega
 have w9:List.drop 8 (arc .u8 8 [])=[]:=List.drop_eq_nil_of_le (by rw[arc_len]; exact Nat.le_refl _);cases hF;simp only[simprocAttr, -Int.reduceNatCast',R0,b104,hl_0,h0_0,(show [V.int .u8 0,V.int .u8 0,V.int .u8 0,V.int .u8 0,V.int .u8 0,V.int .u8 0,V.int .u8 0,V.int .u8 0]=arc .u8 8 [] from rfl),w2,List.append_nil,w4a,w4b,w4c,w6,eq_true w6l,w9,List.append_nil];exact fin_ret (by simp only[simprocAttr, -Int.reduceNatCast',R0,fn_out,p104,Rs.ev,take_len_self,hl_0,h0_0,(show [V.int .u8 0,V.int .u8 0,V.int .u8 0,V.int .u8 0,V.int .u8 0,V.int .u8 0,V.int .u8 0,V.int .u8 0]=arc .u8 8 [] from rfl),w2,List.append_nil,w4a,w4b,w4c,w6,eq_true w6l,w9,List.append_nil])
def F105_1_B(a0:Int)(a2:Ar .u8 8)(a3:Int)(v9_1:Int)(o0_1:(List Int)):Option (((List Int))⊕((List Int))):=
 (ixI 8 v9_1).bind fun n4=>
(chk (o0_1.getD n4 0)).bind fun x7=>
(chk (a2.val.getD n4 0)).bind fun x9=>
(chk (a3*x9)).bind fun x10=>
(chk (x7+x10)).bind fun x11=>
(F127 a0 x11).bind fun x12=>
(some (arW 8 o0_1 n4 (Go.IntKind.wrap .u8 x12))).bind fun l14=>
some (.inl l14)
def F105_1_D(a0:Int)(a2:Ar .u8 8)(a3:Int)(v9_1:Int)(o0_1:(List Int)):Option ((List Int)):=
 some o0_1
def F105(a0:Int)(a1:Ar .u8 8)(a2:Ar .u8 8)(a3:Int):Option (Ar .u8 8):=
 (forR 0 8 (F105_1_B a0 a2 a3) (F105_1_D a0 a2 a3) a1.val).bind fun zo0_1=>
 some ⟨zo0_1⟩
def I105_1(a0:Int)(a2:Ar .u8 8)(a3:Int)(v9_1:Int)(o0_1:(List Int))(e:Env)(h:Heap):Prop:=
 ∃k2:Nat,h=⟨[(0,some (arc .u8 8 o0_1)),(0,none),(2,some (arc .u8 8 []))],k2⟩∧e.length=31∧e.at 0=V.int .i64 a0∧e.at 3=V.int .i64 a3∧e.at 5=V.ptr 0 0 0∧e.at 6=V.iptr (arc .u8 8 a2.val)∧e.at 8=V.ptr 2 2 0∧e.at 9=V.int .i64 v9_1
def P105_1(a0:Int)(a2:Ar .u8 8)(a3:Int)(zo0_1:(List Int))(x:Ex)(e:Env)(h:Heap):Prop:=
 x= .normal∧∃k2:Nat,h=⟨[(0,some (arc .u8 8 zo0_1)),(0,none),(2,some (arc .u8 8 []))],k2⟩∧e.length=31∧e.at 5=V.ptr 0 0 0∧e.at 8=V.ptr 2 2 0
theorem l105_1(a0:Int)(a2:Ar .u8 8)(a3:Int){lo:Int}{s:(List Int)}{t:(List Int)}(hF:forR lo 8 (F105_1_B a0 a2 a3) (F105_1_D a0 a2 a3) s=some t){e:Env}{h:Heap}(hI:I105_1 a0 a2 a3 lo s e h):W A c105_1 e h (P105_1 a0 a2 a3 t):=by
 show W A (.block 0 (.loop false b105_1)) e h _;rw[W_block];refine W_forR hF 3 (by obtain⟨_,rfl,_⟩:=hI; rfl) (I105_1 a0 a2 a3) hI ?_ ?_
 ·rintro v9_1 o0_1 e h ⟨k2,rfl,h_1⟩ hlt hw o ho
  unfold F105_1_B at ho;obtain⟨n4,gn4,ho⟩:=bS ho;obtain⟨w5a,w5b,w5c,w5d⟩:=ixI_w gn4;have w6:ofCells none (List.drop n4 (arc .u8 8 o0_1))=some (V.int .u8 (o0_1.getD n4 0)):=by first|exact arc_one' (i:=n4) (by omega) (by omega)|(simp only[List.drop_drop]; exact arc_one' (i:=n4) (by omega) (by omega))|(show ofCells none (List.drop 0 _)=_; exact arc_one' (i:=n4) (by omega) (by omega))
  obtain⟨x7,gx7,ho⟩:=bS ho;have wx7:=chk_w gx7;have w8:ofCells none (List.drop n4 (arc .u8 8 a2.val))=some (V.int .u8 (a2.val.getD n4 0)):=by first|exact arc_one' (i:=n4) (by omega) (by omega)|(simp only[List.drop_drop]; exact arc_one' (i:=n4) (by omega) (by omega))|(show ofCells none (List.drop 0 _)=_; exact arc_one' (i:=n4) (by omega) (by omega))
  obtain⟨x9,gx9,ho⟩:=bS ho;have wx9:=chk_w gx9;obtain⟨x10,gx10,ho⟩:=bS ho;have wx10:=chk_w gx10;obtain⟨x11,gx11,ho⟩:=bS ho;have wx11:=chk_w gx11;obtain⟨x12,gx12,ho⟩:=bS ho;have w13:ans A 127 [V.int .i64 a0,V.int .i64 x11]=some (V.int .i64 x12):=s127 a0 x11 gx12;obtain⟨l14,gl14,ho⟩:=bS ho;have w15:List.take n4 (arc .u8 8 o0_1)++[V.int .u8 (Go.IntKind.wrap .u8 x12)]++List.drop (n4+1) (arc .u8 8 o0_1)=arc .u8 8 l14:=by rw[←Option.some.inj gl14]; exact arc_set (by omega)
  have w15l:n4+1≤8:=by omega
  cases ho;simp only[simprocAttr,R0,b105_1,h_1,eq_true hlt,hw,w5a,w5b,w5c,w6,wx7,w8,wx9,wx10,wx11,w13,w15,eq_true w15l];refine ai rfl (ei _ (ai rfl ?_));simp only[simprocAttr,R0,h_1,eq_true hlt,hw,w5a,w5b,w5c,w6,wx7,w8,wx9,wx10,wx11,w13,w15,eq_true w15l]
 ·rintro v9_1 o0_1 e h ⟨k2,rfl,h_1⟩ hge t1 ho
  unfold F105_1_D at ho;cases ho;simp only[simprocAttr,R0,b105_1,h_1,eq_false hge];intro ht; subst ht;refine ai rfl (ei _ (ai rfl ?_));simp only[simprocAttr,R0,h_1,eq_false hge]
theorem s105(a0:Int)(a1:Ar .u8 8)(a2:Ar .u8 8)(a3:Int){r:Ar .u8 8}(hF:F105 a0 a1 a2 a3=some r):ans A 105 [V.int .i64 a0,V.agg (arc .u8 8 a1.val),V.agg (arc .u8 8 a2.val),V.int .i64 a3]=some (Enc.enc r):=by
 refine ans_of (f:=p105) rfl rfl rfl fun e hl he=>?_;have h0_0:e.at 0=V.int .i64 a0:=he 0 _ rfl;have h1_0:e.at 1=V.agg (arc .u8 8 a1.val):=he 1 _ rfl;have h2_0:e.at 2=V.agg (arc .u8 8 a2.val):=he 2 _ rfl;have h3_0:e.at 3=V.int .i64 a3:=he 3 _ rfl;have hl_0:e.length=31:=hl;clear he hl;show W A b105 e ⟨[],0⟩ _;unfold F105 at hF;obtain⟨zo0_1,gt16,hF⟩:=bS hF;simp only[simprocAttr,R0,b105,hl_0,h0_0,h1_0,h2_0,h3_0,(show [V.int .u8 0,V.int .u8 0,V.int .u8 0,V.int .u8 0,V.int .u8 0,V.int .u8 0,V.int .u8 0,V.int .u8 0]=arc .u8 8 [] from rfl)];refine W.mono (l105_1 a0 a2 a3 gt16 (ei _ (ai rfl ?_))) ?_
 ·simp only[simprocAttr,R0,hl_0,h0_0,h1_0,h2_0,h3_0,(show [V.int .u8 0,V.int .u8 0,V.int .u8 0,V.int .u8 0,V.int .u8 0,V.int .u8 0,V.int .u8 0,V.int .u8 0]=arc .u8 8 [] from rfl)]
 rintro _ e _ ⟨rfl,k2,rfl,h_3⟩;have w19:List.drop 8 (arc .u8 8 [])=[]:=List.drop_eq_nil_of_le (by rw[arc_len]; exact Nat.le_refl _);cases hF;simp only[simprocAttr,R0,h_3,w19,List.append_nil];exact fin_ret (by simp only[simprocAttr,R0,fn_out,p105,Rs.ev,take_len_self,h_3,w19,List.append_nil])
def F78(a0:Int):Option Bool:=
 if a0=2 then
  some true
 else
  if a0=3 then
   some true
  else
   if a0=5 then
    some true
   else
    some (decide (a0=7))
theorem s78(a0:Int){r:Bool}(hF:F78 a0=some r):ans A 78 [V.int .i64 a0]=some (Enc.enc r):=by
 refine ans_of (f:=p78) rfl rfl rfl fun e hl he=>?_;have h0_0:e.at 0=V.int .i64 a0:=he 0 _ rfl;have hl_0:e.length=17:=hl;clear he hl;have h_0:=ai hl_0 h0_0;show W A b78 e ⟨[],0⟩ _;unfold F78 at hF;by_cases c1:a0=2
 ·rw[if_pos c1]at hF
  cases hF;simp only[simprocAttr,R0,b78,h_0,eq_true c1];exact fin_ret (by simp only[simprocAttr,R0,fn_out,p78,Rs.ev,take_len_self,h_0,eq_true c1])
 ·rw[if_neg c1]at hF
  by_cases c2:a0=3
  ·rw[if_pos c2]at hF
   cases hF;simp only[simprocAttr,R0,b78,h_0,eq_false c1,eq_true c2];exact fin_ret (by simp only[simprocAttr,R0,fn_out,p78,Rs.ev,take_len_self,h_0,eq_false c1,eq_true c2])
  ·rw[if_neg c2]at hF
   by_cases c3:a0=5
   ·rw[if_pos c3]at hF
    cases hF;simp only[simprocAttr,R0,b78,h_0,eq_false c1,eq_false c2,eq_true c3];exact fin_ret (by simp only[simprocAttr,R0,fn_out,p78,Rs.ev,take_len_self,h_0,eq_false c1,eq_false c2,eq_true c3])
   ·rw[if_neg c3]at hF
    cases hF;simp only[simprocAttr,R0,b78,h_0,eq_false c1,eq_false c2,eq_false c3];exact fin_ret (by simp only[simprocAttr,R0,fn_out,p78,Rs.ev,take_len_self,h_0,eq_false c1,eq_false c2,eq_false c3])
def F181_1_B(a0:Int)(a1:Int)(a2:Ar .u8 8)(v7_1:Int)(s:Unit):Option ((Unit)⊕((Unit)⊕Bool)):=
 (ixI 8 v7_1).bind fun n4=>
(chk (a2.val.getD n4 0)).bind fun x7=>
if a0≤x7 then
 some (.inr (.inr false))
else
 if a1≤v7_1 then
  if(a2.val.getD n4 0)=0 then
   some (.inl ())
  else
   some (.inr (.inr false))
 else
  some (.inl ())
def F181_1_D(a0:Int)(a1:Int)(a2:Ar .u8 8)(v7_1:Int)(s:Unit):Option ((Unit)⊕Bool):=
 some (.inl ())
def F181(a0:Int)(a1:Int)(a2:Ar .u8 8):Option Bool:=
 (forR 0 8 (F181_1_B a0 a1 a2) (F181_1_D a0 a1 a2) ()).bind fun t12=> match t12 with
  | .inl _=>
   some true
  | .inr r13=> some r13
def I181_1(a0:Int)(a1:Int)(a2:Ar .u8 8)(v7_1:Int)(s:Unit)(e:Env)(h:Heap):Prop:=
 ∃k2:Nat,h=⟨[(0,none)],k2⟩∧e.length=29∧e.at 0=V.int .i64 a0∧e.at 1=V.int .i64 a1∧e.at 5=V.iptr (arc .u8 8 a2.val)∧e.at 7=V.int .i64 v7_1
def P181_1(a0:Int)(a1:Int)(a2:Ar .u8 8)(t:(Unit)⊕Bool)(x:Ex)(e:Env)(h:Heap):Prop:=
 match t with
 | .inl _=> x= .normal∧∃k2:Nat,h=⟨[(0,none)],k2⟩∧e.length=29
 | .inr r=> x= .ret∧Fin p181 (Enc.enc r) .ret e h
theorem l181_1(a0:Int)(a1:Int)(a2:Ar .u8 8){lo:Int}{s:Unit}{t:(Unit)⊕Bool}(hF:forR lo 8 (F181_1_B a0 a1 a2) (F181_1_D a0 a1 a2) s=some t){e:Env}{h:Heap}(hI:I181_1 a0 a1 a2 lo s e h):W A c181_1 e h (P181_1 a0 a1 a2 t):=by
 show W A (.block 0 (.loop false b181_1)) e h _;rw[W_block];refine W_forR hF 1 (by obtain⟨_,rfl,_⟩:=hI; rfl) (I181_1 a0 a1 a2) hI ?_ ?_
 ·rintro v7_1 _ e h ⟨k2,rfl,h_1⟩ hlt hw o ho
  unfold F181_1_B at ho;obtain⟨n4,gn4,ho⟩:=bS ho;obtain⟨w5a,w5b,w5c,w5d⟩:=ixI_w gn4;have w6:ofCells none (List.drop n4 (arc .u8 8 a2.val))=some (V.int .u8 (a2.val.getD n4 0)):=by first|exact arc_one' (i:=n4) (by omega) (by omega)|(simp only[List.drop_drop]; exact arc_one' (i:=n4) (by omega) (by omega))|(show ofCells none (List.drop 0 _)=_; exact arc_one' (i:=n4) (by omega) (by omega))
  obtain⟨x7,gx7,ho⟩:=bS ho;have wx7:=chk_w gx7;by_cases c8:a0≤x7
  ·rw[if_pos c8]at ho
   cases ho;simp only[simprocAttr,R0,b181_1,h_1,eq_true hlt,hw,w5a,w5b,w5c,w6,wx7,eq_true c8];intro ht; subst ht;simp only[simprocAttr,RR,RB];exact ai rfl (fin_ret (by simp only[simprocAttr,R0,fn_out,p181,Rs.ev,take_len_self,h_1,eq_true hlt,hw,w5a,w5b,w5c,w6,wx7,eq_true c8]))
  ·rw[if_neg c8]at ho
   by_cases c9:a1≤v7_1
   ·rw[if_pos c9]at ho
    have w10:ofCells none (List.drop n4 (arc .u8 8 a2.val))=some (V.int .u8 (a2.val.getD n4 0)):=by first|exact arc_one' (i:=n4) (by omega) (by omega)|(simp only[List.drop_drop]; exact arc_one' (i:=n4) (by omega) (by omega))|(show ofCells none (List.drop 0 _)=_; exact arc_one' (i:=n4) (by omega) (by omega))
    by_cases c11:(a2.val.getD n4 0)=0
    ·rw[if_pos c11]at ho
     cases ho;simp only[simprocAttr,R0,b181_1,h_1,eq_true hlt,hw,w5a,w5b,w5c,w6,wx7,eq_false c8,eq_true c9,w10,eq_true c11];refine ai rfl (ei _ (ai rfl ?_));simp only[simprocAttr,R0,h_1,eq_true hlt,hw,w5a,w5b,w5c,w6,wx7,eq_false c8,eq_true c9,w10,eq_true c11]
    ·rw[if_neg c11]at ho
     cases ho;simp only[simprocAttr,R0,b181_1,h_1,eq_true hlt,hw,w5a,w5b,w5c,w6,wx7,eq_false c8,eq_true c9,w10,eq_false c11];intro ht; subst ht;simp only[simprocAttr,RR,RB];exact ai rfl (fin_ret (by simp only[simprocAttr,R0,fn_out,p181,Rs.ev,take_len_self,h_1,eq_true hlt,hw,w5a,w5b,w5c,w6,wx7,eq_false c8,eq_true c9,w10,eq_false c11]))
   ·rw[if_neg c9]at ho
    cases ho;simp only[simprocAttr,R0,b181_1,h_1,eq_true hlt,hw,w5a,w5b,w5c,w6,wx7,eq_false c8,eq_false c9];refine ai rfl (ei _ (ai rfl ?_));simp only[simprocAttr,R0,h_1,eq_true hlt,hw,w5a,w5b,w5c,w6,wx7,eq_false c8,eq_false c9]
 ·rintro v7_1 _ e h ⟨k2,rfl,h_1⟩ hge t1 ho
  unfold F181_1_D at ho;cases ho;simp only[simprocAttr,R0,b181_1,h_1,eq_false hge];intro ht; subst ht;refine ai rfl (ei _ (ai rfl ?_));simp only[simprocAttr,R0,h_1,eq_false hge]
theorem s181(a0:Int)(a1:Int)(a2:Ar .u8 8){r:Bool}(hF:F181 a0 a1 a2=some r):ans A 181 [V.int .i64 a0,V.int .i64 a1,V.agg (arc .u8 8 a2.val)]=some (Enc.enc r):=by
 refine ans_of (f:=p181) rfl rfl rfl fun e hl he=>?_;have h0_0:e.at 0=V.int .i64 a0:=he 0 _ rfl;have h1_0:e.at 1=V.int .i64 a1:=he 1 _ rfl;have h2_0:e.at 2=V.agg (arc .u8 8 a2.val):=he 2 _ rfl;have hl_0:e.length=29:=hl;clear he hl;have h_0:=ai hl_0 (ai h0_0 (ai h1_0 h2_0));show W A b181 e ⟨[],0⟩ _;unfold F181 at hF;obtain⟨t12,gt12,hF⟩:=bS hF;rcases t12 with _|r13
 ·dsimp only at hF
  simp only[simprocAttr,R0,b181,h_0];refine W.mono (l181_1 a0 a1 a2 gt12 (ei _ (ai rfl ?_))) ?_
  ·simp only[simprocAttr,R0,h_0]
  rintro _ e _ ⟨rfl,k2,rfl,hl_3⟩;cases hF;simp only[simprocAttr,R0,hl_3];exact fin_ret (by simp only[simprocAttr,R0,fn_out,p181,Rs.ev,take_len_self,hl_3])
 ·dsimp only at hF
  cases hF;simp only[simprocAttr,R0,b181,h_0];refine W.mono (l181_1 a0 a1 a2 gt12 (ei _ (ai rfl ?_))) ?_
  ·simp only[simprocAttr,R0,h_0]
  rintro _ e h ⟨rfl,hq⟩;simp only[simprocAttr,RR,RB];exact hq
def F210_1_B(a0:GDga)(a1:Ar .u8 8)(a2:Int)(a3:Int)(v9_1:Int)(s:Unit):Option ((Unit)⊕((Unit)⊕Bool)):=
 (ixI 8 v9_1).bind fun n5=>
if(a1.val.getD n5 0)=0 then
 some (.inl ())
else
 if(a0.Degrees.val.getD n5 0)=a2 then
  if a3 < (a0.Levels.val.getD n5 0)then
   some (.inr (.inr false))
  else
   some (.inl ())
 else
  some (.inr (.inr false))
def F210_1_D(a0:GDga)(a1:Ar .u8 8)(a2:Int)(a3:Int)(v9_1:Int)(s:Unit):Option ((Unit)⊕Bool):=
 some (.inl ())
def F210(a0:GDga)(a1:Ar .u8 8)(a2:Int)(a3:Int):Option Bool:=
 (forR 0 a0.Size (F210_1_B a0 a1 a2 a3) (F210_1_D a0 a1 a2 a3) ()).bind fun t14=> match t14 with
  | .inl _=>
   some true
  | .inr r15=> some r15
def I210_1(a0:GDga)(a1:Ar .u8 8)(a2:Int)(a3:Int)(v9_1:Int)(s:Unit)(e:Env)(h:Heap):Prop:=
 ∃k2:Nat,h=⟨[(0,none),(0,none)],k2⟩∧e.length=36∧e.at 2=V.int .i64 a2∧e.at 3=V.int .i64 a3∧e.at 4=V.iptr (ceGDga a0)∧e.at 5=V.iptr (arc .u8 8 a1.val)∧e.at 9=V.int .i64 v9_1
def P210_1(a0:GDga)(a1:Ar .u8 8)(a2:Int)(a3:Int)(t:(Unit)⊕Bool)(x:Ex)(e:Env)(h:Heap):Prop:=
 match t with
 | .inl _=> x= .normal∧∃k2:Nat,h=⟨[(0,none),(0,none)],k2⟩∧e.length=36
 | .inr r=> x= .ret∧Fin p210 (Enc.enc r) .ret e h
theorem l210_1(a0:GDga)(a1:Ar .u8 8)(a2:Int)(a3:Int){lo:Int}{s:Unit}{t:(Unit)⊕Bool}(hF:forR lo a0.Size (F210_1_B a0 a1 a2 a3) (F210_1_D a0 a1 a2 a3) s=some t){e:Env}{h:Heap}(hI:I210_1 a0 a1 a2 a3 lo s e h):W A c210_1 e h (P210_1 a0 a1 a2 a3 t):=by
 show W A (.block 0 (.loop false b210_1)) e h _;rw[W_block];refine W_forR hF 2 (by obtain⟨_,rfl,_⟩:=hI; rfl) (I210_1 a0 a1 a2 a3) hI ?_ ?_
 ·rintro v9_1 _ e h ⟨k2,rfl,h_1⟩ hlt hw o ho
  unfold F210_1_B at ho;have w4:ofCells none (List.drop 1 (ceGDga a0))=some (V.int .i64 a0.Size):=by first|exact ceGDga_Size_one (a:=_) rfl|(simp only[List.drop_drop]; exact ceGDga_Size_one (by omega))|(show ofCells none (List.drop 0 _)=_; exact ceGDga_Size_one rfl)
  obtain⟨n5,gn5,ho⟩:=bS ho;obtain⟨w6a,w6b,w6c,w6d⟩:=ixI_w gn5;have w7:ofCells none (List.drop n5 (arc .u8 8 a1.val))=some (V.int .u8 (a1.val.getD n5 0)):=by first|exact arc_one' (i:=n5) (by omega) (by omega)|(simp only[List.drop_drop]; exact arc_one' (i:=n5) (by omega) (by omega))|(show ofCells none (List.drop 0 _)=_; exact arc_one' (i:=n5) (by omega) (by omega))
  by_cases c8:(a1.val.getD n5 0)=0
  ·rw[if_pos c8]at ho
   cases ho;simp only[simprocAttr, -Int.reduceNatCast',R0,b210_1,h_1,eq_true hlt,hw,w4,w6a,w6b,w6c,w7,eq_true c8];refine ai rfl (ei _ (ai rfl ?_));simp only[simprocAttr, -Int.reduceNatCast',R0,h_1,eq_true hlt,hw,w4,w6a,w6b,w6c,w7,eq_true c8]
  ·rw[if_neg c8]at ho
   have w9:ofCells none (List.drop n5 (List.drop 2 (ceGDga a0)))=some (V.int .i64 (a0.Degrees.val.getD n5 0)):=by first|exact ceGDga_Degrees_one (i:=n5) (by omega) (by omega)|(simp only[List.drop_drop]; exact ceGDga_Degrees_one (i:=n5) (by omega) (by omega))|(show ofCells none (List.drop 0 _)=_; exact ceGDga_Degrees_one (i:=n5) (by omega) (by omega))
   by_cases c10:(a0.Degrees.val.getD n5 0)=a2
   ·rw[if_pos c10]at ho
    have w11:ofCells none (List.drop n5 (List.drop 10 (ceGDga a0)))=some (V.int .i64 (a0.Levels.val.getD n5 0)):=by first|exact ceGDga_Levels_one (i:=n5) (by omega) (by omega)|(simp only[List.drop_drop]; exact ceGDga_Levels_one (i:=n5) (by omega) (by omega))|(show ofCells none (List.drop 0 _)=_; exact ceGDga_Levels_one (i:=n5) (by omega) (by omega))
    by_cases c12:a3 < (a0.Levels.val.getD n5 0)
    ·rw[if_pos c12]at ho
     cases ho;simp only[simprocAttr, -Int.reduceNatCast',R0,b210_1,h_1,eq_true hlt,hw,w4,w6a,w6b,w6c,w7,eq_false c8,w9,eq_true c10,w11,eq_true c12];intro ht; subst ht;simp only[simprocAttr, -Int.reduceNatCast',RR,RB];exact ai rfl (fin_ret (by simp only[simprocAttr, -Int.reduceNatCast',R0,fn_out,p210,Rs.ev,take_len_self,h_1,eq_true hlt,hw,w4,w6a,w6b,w6c,w7,eq_false c8,w9,eq_true c10,w11,eq_true c12]))
    ·rw[if_neg c12]at ho
     cases ho;simp only[simprocAttr, -Int.reduceNatCast',R0,b210_1,h_1,eq_true hlt,hw,w4,w6a,w6b,w6c,w7,eq_false c8,w9,eq_true c10,w11,eq_false c12];refine ai rfl (ei _ (ai rfl ?_));simp only[simprocAttr, -Int.reduceNatCast',R0,h_1,eq_true hlt,hw,w4,w6a,w6b,w6c,w7,eq_false c8,w9,eq_true c10,w11,eq_false c12]
   ·rw[if_neg c10]at ho
    cases ho;simp only[simprocAttr, -Int.reduceNatCast',R0,b210_1,h_1,eq_true hlt,hw,w4,w6a,w6b,w6c,w7,eq_false c8,w9,eq_false c10];intro ht; subst ht;simp only[simprocAttr, -Int.reduceNatCast',RR,RB];exact ai rfl (fin_ret (by simp only[simprocAttr, -Int.reduceNatCast',R0,fn_out,p210,Rs.ev,take_len_self,h_1,eq_true hlt,hw,w4,w6a,w6b,w6c,w7,eq_false c8,w9,eq_false c10]))
 ·rintro v9_1 _ e h ⟨k2,rfl,h_1⟩ hge t1 ho
  unfold F210_1_D at ho;have w13:ofCells none (List.drop 1 (ceGDga a0))=some (V.int .i64 a0.Size):=by first|exact ceGDga_Size_one (a:=_) rfl|(simp only[List.drop_drop]; exact ceGDga_Size_one (by omega))|(show ofCells none (List.drop 0 _)=_; exact ceGDga_Size_one rfl)
  cases ho;simp only[simprocAttr, -Int.reduceNatCast',R0,b210_1,h_1,eq_false hge,w13];intro ht; subst ht;refine ai rfl (ei _ (ai rfl ?_));simp only[simprocAttr, -Int.reduceNatCast',R0,h_1,eq_false hge,w13]
theorem s210(a0:GDga)(a1:Ar .u8 8)(a2:Int)(a3:Int){r:Bool}(hF:F210 a0 a1 a2 a3=some r):ans A 210 [V.agg (ceGDga a0),V.agg (arc .u8 8 a1.val),V.int .i64 a2,V.int .i64 a3]=some (Enc.enc r):=by
 refine ans_of (f:=p210) rfl rfl rfl fun e hl he=>?_;have h0_0:e.at 0=V.agg (ceGDga a0):=he 0 _ rfl;have h1_0:e.at 1=V.agg (arc .u8 8 a1.val):=he 1 _ rfl;have h2_0:e.at 2=V.int .i64 a2:=he 2 _ rfl;have h3_0:e.at 3=V.int .i64 a3:=he 3 _ rfl;have hl_0:e.length=36:=hl;clear he hl;have h_0:=ai hl_0 (ai h0_0 (ai h1_0 (ai h2_0 h3_0)));show W A b210 e ⟨[],0⟩ _;unfold F210 at hF;obtain⟨t14,gt14,hF⟩:=bS hF;rcases t14 with _|r15
 ·dsimp only at hF
  simp only[simprocAttr,R0,b210,h_0];refine W.mono (l210_1 a0 a1 a2 a3 gt14 (ei _ (ai rfl ?_))) ?_
  ·simp only[simprocAttr,R0,h_0]
  rintro _ e _ ⟨rfl,k2,rfl,hl_3⟩;cases hF;simp only[simprocAttr,R0,hl_3];exact fin_ret (by simp only[simprocAttr,R0,fn_out,p210,Rs.ev,take_len_self,hl_3])
 ·dsimp only at hF
  cases hF;simp only[simprocAttr,R0,b210,h_0];refine W.mono (l210_1 a0 a1 a2 a3 gt14 (ei _ (ai rfl ?_))) ?_
  ·simp only[simprocAttr,R0,h_0]
  rintro _ e h ⟨rfl,hq⟩;simp only[simprocAttr,RR,RB];exact hq
def F197_2_B(a0:GDga)(v3_1:Int)(v4_2:Int)(s:Unit):Option ((Unit)⊕((Unit)⊕Bool)):=
 (ixI 8 v3_1).bind fun n46=>
(ixI 8 v4_2).bind fun n48=>
(F181 a0.Prime a0.Size ⟨(arP a0.Table.val (n46*64+n48*8) 8)⟩).bind fun x51=>
if x51=true then
 if a0.Size≤v3_1 then
  (arE .u8 8 (arP a0.Table.val (n46*64+n48*8) 8) []).bind fun x56=>
  if x56=true then
   some (.inl ())
  else
   some (.inr (.inr false))
 else
  if a0.Size≤v4_2 then
   (arE .u8 8 (arP a0.Table.val (n46*64+n48*8) 8) []).bind fun x61=>
   if x61=true then
    some (.inl ())
   else
    some (.inr (.inr false))
  else
   some (.inl ())
else
 some (.inr (.inr false))
def F197_2_D(a0:GDga)(v3_1:Int)(v4_2:Int)(s:Unit):Option ((Unit)⊕Bool):=
 some (.inl ())
def F197_1_B(a0:GDga)(v3_1:Int)(s:Unit):Option ((Unit)⊕((Unit)⊕Bool)):=
 if a0.Size≤v3_1 then
 (ixI 8 v3_1).bind fun n12=>
 if(a0.Degrees.val.getD n12 0)=0 then
  if(a0.Levels.val.getD n12 0)=0 then
   (arE .u8 8 (arP a0.Diff.val (n12*8) 8) []).bind fun x19=>
   if x19=true then
    (F181 a0.Prime a0.Size ⟨(arP a0.Diff.val (n12*8) 8)⟩).bind fun x24=>
    if x24=true then
     (F54 (a0.Degrees.val.getD n12 0) 0 5).bind fun x27=>
     if x27=true then
      (F54 (a0.Levels.val.getD n12 0) 0 5).bind fun x30=>
      if x30=true then
       if 0 < v3_1 then
        if v3_1 < a0.Size then
         (chk (v3_1 - 1)).bind fun x36=>
         (ixI 8 x36).bind fun n37=>
         if(a0.Degrees.val.getD n12 0) < (a0.Degrees.val.getD n37 0)then
          some (.inr (.inr false))
         else
          (forR 0 8 (F197_2_B a0 v3_1) (F197_2_D a0 v3_1) ()).bind fun t63=> match t63 with
           | .inl _=>
            some (.inl ())
           | .inr r64=> some (.inr (.inr r64))
        else
         (forR 0 8 (F197_2_B a0 v3_1) (F197_2_D a0 v3_1) ()).bind fun t87=> match t87 with
          | .inl _=>
           some (.inl ())
          | .inr r88=> some (.inr (.inr r88))
       else
        (forR 0 8 (F197_2_B a0 v3_1) (F197_2_D a0 v3_1) ()).bind fun t111=> match t111 with
         | .inl _=>
          some (.inl ())
         | .inr r112=> some (.inr (.inr r112))
      else
       some (.inr (.inr false))
     else
      some (.inr (.inr false))
    else
     some (.inr (.inr false))
   else
    some (.inr (.inr false))
  else
   some (.inr (.inr false))
 else
  some (.inr (.inr false))
else
 (ixI 8 v3_1).bind fun n115=>
 (F181 a0.Prime a0.Size ⟨(arP a0.Diff.val (n115*8) 8)⟩).bind fun x118=>
 if x118=true then
  (F54 (a0.Degrees.val.getD n115 0) 0 5).bind fun x121=>
  if x121=true then
   (F54 (a0.Levels.val.getD n115 0) 0 5).bind fun x124=>
   if x124=true then
    if 0 < v3_1 then
     if v3_1 < a0.Size then
      (chk (v3_1 - 1)).bind fun x130=>
      (ixI 8 x130).bind fun n131=>
      if(a0.Degrees.val.getD n115 0) < (a0.Degrees.val.getD n131 0)then
       some (.inr (.inr false))
      else
       (forR 0 8 (F197_2_B a0 v3_1) (F197_2_D a0 v3_1) ()).bind fun t157=> match t157 with
        | .inl _=>
         some (.inl ())
        | .inr r158=> some (.inr (.inr r158))
     else
      (forR 0 8 (F197_2_B a0 v3_1) (F197_2_D a0 v3_1) ()).bind fun t181=> match t181 with
       | .inl _=>
        some (.inl ())
       | .inr r182=> some (.inr (.inr r182))
    else
     (forR 0 8 (F197_2_B a0 v3_1) (F197_2_D a0 v3_1) ()).bind fun t205=> match t205 with
      | .inl _=>
       some (.inl ())
      | .inr r206=> some (.inr (.inr r206))
   else
    some (.inr (.inr false))
  else
   some (.inr (.inr false))
 else
  some (.inr (.inr false))
def F197_1_D(a0:GDga)(v3_1:Int)(s:Unit):Option ((Unit)⊕Bool):=
 some (.inl ())
def F197_4_B(a0:GDga)(v5_3:Int)(v6_4:Int)(s:Unit):Option ((Unit)⊕((Unit)⊕Bool)):=
 (ixI 8 v5_3).bind fun n224=>
(ixI 8 v6_4).bind fun n226=>
(chk ((a0.Degrees.val.getD n224 0)+(a0.Degrees.val.getD n226 0))).bind fun x231=>
(chk ((a0.Levels.val.getD n224 0)+(a0.Levels.val.getD n226 0))).bind fun x234=>
(F210 a0 ⟨(arP a0.Table.val (n224*64+n226*8) 8)⟩ x231 x234).bind fun x235=>
if x235=true then
 some (.inl ())
else
 some (.inr (.inr false))
def F197_4_D(a0:GDga)(v5_3:Int)(v6_4:Int)(s:Unit):Option ((Unit)⊕Bool):=
 some (.inl ())
def F197_3_B(a0:GDga)(v5_3:Int)(s:Unit):Option ((Unit)⊕((Unit)⊕Bool)):=
 (ixI 8 v5_3).bind fun n212=>
(chk ((a0.Degrees.val.getD n212 0) - 1)).bind fun x216=>
(F210 a0 ⟨(arP a0.Diff.val (n212*8) 8)⟩ x216 (a0.Levels.val.getD n212 0)).bind fun x218=>
if x218=true then
 (forR 0 a0.Size (F197_4_B a0 v5_3) (F197_4_D a0 v5_3) ()).bind fun t238=> match t238 with
  | .inl _=>
   some (.inl ())
  | .inr r239=> some (.inr (.inr r239))
else
 some (.inr (.inr false))
def F197_3_D(a0:GDga)(v5_3:Int)(s:Unit):Option ((Unit)⊕Bool):=
 some (.inl ())
def F197(a0:GDga):Option Bool:=
 (F78 a0.Prime).bind fun x2=>
 if x2=true then
  (F54 a0.Size 1 8).bind fun x5=>
  if x5=true then
   (forR 0 8 (F197_1_B a0) (F197_1_D a0) ()).bind fun t207=> match t207 with
    | .inl _=>
     (forR 0 a0.Size (F197_3_B a0) (F197_3_D a0) ()).bind fun t241=> match t241 with
      | .inl _=>
       if(a0.Degrees.val.getD 0 0)=0 then
        some (decide ((a0.Levels.val.getD 0 0)=0))
       else
        some false
      | .inr r245=> some r245
    | .inr r246=> some r246
  else
   some false
 else
  some false
def I197_2(a0:GDga)(v3_1:Int)(v4_2:Int)(s:Unit)(e:Env)(h:Heap):Prop:=
 ∃k42:Nat,h=⟨[(0,none)],k42⟩∧e.length=198∧e.at 1=V.iptr (ceGDga a0)∧e.at 3=V.int .i64 v3_1∧e.at 4=V.int .i64 v4_2
def P197_2(a0:GDga)(v3_1:Int)(t:(Unit)⊕Bool)(x:Ex)(e:Env)(h:Heap):Prop:=
 match t with
 | .inl _=> x= .normal∧∃k42:Nat,h=⟨[(0,none)],k42⟩∧e.length=198∧e.at 1=V.iptr (ceGDga a0)∧e.at 3=V.int .i64 v3_1
 | .inr r=> x= .ret∧Fin p197 (Enc.enc r) .ret e h
set_option maxHeartbeats 8000000 in
theorem l197_2(a0:GDga)(v3_1:Int){lo:Int}{s:Unit}{t:(Unit)⊕Bool}(hF:forR lo 8 (F197_2_B a0 v3_1) (F197_2_D a0 v3_1) s=some t){e:Env}{h:Heap}(hI:I197_2 a0 v3_1 lo s e h):W A c197_2 e h (P197_2 a0 v3_1 t):=by
 show W A (.block 2 (.loop false b197_2)) e h _;rw[W_block];refine W_forR hF 1 (by obtain⟨_,rfl,_⟩:=hI; rfl) (I197_2 a0 v3_1) hI ?_ ?_
 ·rintro v4_2 _ e h ⟨k42,rfl,h_41⟩ hlt hw o ho
  unfold F197_2_B at ho;have w44:ofCells none (ceGDga a0)=some (V.int .i64 a0.Prime):=by first|exact ceGDga_Prime_one (a:=_) rfl|(simp only[List.drop_drop]; exact ceGDga_Prime_one (by omega))|(show ofCells none (List.drop 0 _)=_; exact ceGDga_Prime_one rfl)
  have w45:ofCells none (List.drop 1 (ceGDga a0))=some (V.int .i64 a0.Size):=by first|exact ceGDga_Size_one (a:=_) rfl|(simp only[List.drop_drop]; exact ceGDga_Size_one (by omega))|(show ofCells none (List.drop 0 _)=_; exact ceGDga_Size_one rfl)
  obtain⟨n46,gn46,ho⟩:=bS ho;obtain⟨w47a,w47b,w47c,w47d⟩:=ixI_w gn46;obtain⟨n48,gn48,ho⟩:=bS ho;obtain⟨w49a,w49b,w49c,w49d⟩:=ixI_w gn48;have w50:List.take 8 (List.drop (n48*8) (List.drop (n46*64) (List.drop 82 (ceGDga a0))))=arc .u8 8 (arP a0.Table.val (n46*64+n48*8) 8):=by first|exact ceGDga_Table_part (i:=n46*64+n48*8) (m:=8) (by omega) (by omega)|(simp only[List.drop_drop]; exact ceGDga_Table_part (i:=n46*64+n48*8) (m:=8) (by omega) (by omega))|(show List.take _ (List.drop 0 _)=_; exact ceGDga_Table_part (i:=n46*64+n48*8) (m:=8) (by omega) (by omega))
  have w50l:8≤List.length (List.drop (n48*8) (List.drop (n46*64) (List.drop 82 (ceGDga a0)))):=by simp only[List.length_drop,arc_len,ceGDga_len]; omega
  obtain⟨x51,gx51,ho⟩:=bS ho;have w52:ans A 181 [V.int .i64 a0.Prime,V.int .i64 a0.Size,V.agg (arc .u8 8 (arP a0.Table.val (n46*64+n48*8) 8))]=some (V.bool x51):=s181 a0.Prime a0.Size ⟨(arP a0.Table.val (n46*64+n48*8) 8)⟩ gx51;cases x51 with
  |true=>
   rw[if_pos rfl]at ho;have w53:ofCells none (List.drop 1 (ceGDga a0))=some (V.int .i64 a0.Size):=by first|exact ceGDga_Size_one (a:=_) rfl|(simp only[List.drop_drop]; exact ceGDga_Size_one (by omega))|(show ofCells none (List.drop 0 _)=_; exact ceGDga_Size_one rfl)
   by_cases c54:a0.Size≤v3_1
   ·rw[if_pos c54]at ho
    have w55:List.take 8 (List.drop (n48*8) (List.drop (n46*64) (List.drop 82 (ceGDga a0))))=arc .u8 8 (arP a0.Table.val (n46*64+n48*8) 8):=by first|exact ceGDga_Table_part (i:=n46*64+n48*8) (m:=8) (by omega) (by omega)|(simp only[List.drop_drop]; exact ceGDga_Table_part (i:=n46*64+n48*8) (m:=8) (by omega) (by omega))|(show List.take _ (List.drop 0 _)=_; exact ceGDga_Table_part (i:=n46*64+n48*8) (m:=8) (by omega) (by omega))
    have w55l:8≤List.length (List.drop (n48*8) (List.drop (n46*64) (List.drop 82 (ceGDga a0)))):=by simp only[List.length_drop,arc_len,ceGDga_len]; omega
    obtain⟨x56,gx56,ho⟩:=bS ho;have w57:eqSV true 12 (Lay.arr 8 8 1 (Lay.int Go.IntKind.u8)) (V.agg (arc .u8 8 (arP a0.Table.val (n46*64+n48*8) 8))) (V.agg (arc .u8 8 []))=some (V.bool (!x56)):=eqS_arc1 gx56;cases x56 with
    |true=>
     rw[if_pos rfl]at ho;cases ho;simp only[simprocAttr, -Int.reduceNatCast',R0,b197_2,h_41,eq_true hlt,hw,w44,w45,w47a,w47b,w47c,w49a,w49b,w49c,w50,eq_true w50l,w52,w53,eq_true c54,w55,eq_true w55l,(show [V.int .u8 0,V.int .u8 0,V.int .u8 0,V.int .u8 0,V.int .u8 0,V.int .u8 0,V.int .u8 0,V.int .u8 0]=arc .u8 8 [] from rfl),w57];refine ai rfl (ei _ (ai rfl ?_));simp only[simprocAttr, -Int.reduceNatCast',R0,h_41,eq_true hlt,hw,w44,w45,w47a,w47b,w47c,w49a,w49b,w49c,w50,eq_true w50l,w52,w53,eq_true c54,w55,eq_true w55l,(show [V.int .u8 0,V.int .u8 0,V.int .u8 0,V.int .u8 0,V.int .u8 0,V.int .u8 0,V.int .u8 0,V.int .u8 0]=arc .u8 8 [] from rfl),w57]
    |false=>
     rw[if_neg Bool.false_ne_true]at ho;cases ho;simp only[simprocAttr, -Int.reduceNatCast',R0,b197_2,h_41,eq_true hlt,hw,w44,w45,w47a,w47b,w47c,w49a,w49b,w49c,w50,eq_true w50l,w52,w53,eq_true c54,w55,eq_true w55l,(show [V.int .u8 0,V.int .u8 0,V.int .u8 0,V.int .u8 0,V.int .u8 0,V.int .u8 0,V.int .u8 0,V.int .u8 0]=arc .u8 8 [] from rfl),w57];intro ht; subst ht;simp only[simprocAttr, -Int.reduceNatCast',RR,RB];exact ai rfl (fin_ret (by simp only[simprocAttr, -Int.reduceNatCast',R0,fn_out,p197,Rs.ev,take_len_self,h_41,eq_true hlt,hw,w44,w45,w47a,w47b,w47c,w49a,w49b,w49c,w50,eq_true w50l,w52,w53,eq_true c54,w55,eq_true w55l,(show [V.int .u8 0,V.int .u8 0,V.int .u8 0,V.int .u8 0,V.int .u8 0,V.int .u8 0,V.int .u8 0,V.int .u8 0]=arc .u8 8 [] from rfl),w57]))
   ·rw[if_neg c54]at ho
    have w58:ofCells none (List.drop 1 (ceGDga a0))=some (V.int .i64 a0.Size):=by first|exact ceGDga_Size_one (a:=_) rfl|(simp only[List.drop_drop]; exact ceGDga_Size_one (by omega))|(show ofCells none (List.drop 0 _)=_; exact ceGDga_Size_one rfl)
    by_cases c59:a0.Size≤v4_2
    ·rw[if_pos c59]at ho
     have w60:List.take 8 (List.drop (n48*8) (List.drop (n46*64) (List.drop 82 (ceGDga a0))))=arc .u8 8 (arP a0.Table.val (n46*64+n48*8) 8):=by first|exact ceGDga_Table_part (i:=n46*64+n48*8) (m:=8) (by omega) (by omega)|(simp only[List.drop_drop]; exact ceGDga_Table_part (i:=n46*64+n48*8) (m:=8) (by omega) (by omega))|(show List.take _ (List.drop 0 _)=_; exact ceGDga_Table_part (i:=n46*64+n48*8) (m:=8) (by omega) (by omega))
     have w60l:8≤List.length (List.drop (n48*8) (List.drop (n46*64) (List.drop 82 (ceGDga a0)))):=by simp only[List.length_drop,arc_len,ceGDga_len]; omega
     obtain⟨x61,gx61,ho⟩:=bS ho;have w62:eqSV true 12 (Lay.arr 8 8 1 (Lay.int Go.IntKind.u8)) (V.agg (arc .u8 8 (arP a0.Table.val (n46*64+n48*8) 8))) (V.agg (arc .u8 8 []))=some (V.bool (!x61)):=eqS_arc1 gx61;cases x61 with
     |true=>
      rw[if_pos rfl]at ho;cases ho;simp only[simprocAttr, -Int.reduceNatCast',R0,b197_2,h_41,eq_true hlt,hw,w44,w45,w47a,w47b,w47c,w49a,w49b,w49c,w50,eq_true w50l,w52,w53,eq_false c54,w58,eq_true c59,w60,eq_true w60l,(show [V.int .u8 0,V.int .u8 0,V.int .u8 0,V.int .u8 0,V.int .u8 0,V.int .u8 0,V.int .u8 0,V.int .u8 0]=arc .u8 8 [] from rfl),w62];refine ai rfl (ei _ (ai rfl ?_));simp only[simprocAttr, -Int.reduceNatCast',R0,h_41,eq_true hlt,hw,w44,w45,w47a,w47b,w47c,w49a,w49b,w49c,w50,eq_true w50l,w52,w53,eq_false c54,w58,eq_true c59,w60,eq_true w60l,(show [V.int .u8 0,V.int .u8 0,V.int .u8 0,V.int .u8 0,V.int .u8 0,V.int .u8 0,V.int .u8 0,V.int .u8 0]=arc .u8 8 [] from rfl),w62]
     |false=>
      rw[if_neg Bool.false_ne_true]at ho;cases ho;simp only[simprocAttr, -Int.reduceNatCast',R0,b197_2,h_41,eq_true hlt,hw,w44,w45,w47a,w47b,w47c,w49a,w49b,w49c,w50,eq_true w50l,w52,w53,eq_false c54,w58,eq_true c59,w60,eq_true w60l,(show [V.int .u8 0,V.int .u8 0,V.int .u8 0,V.int .u8 0,V.int .u8 0,V.int .u8 0,V.int .u8 0,V.int .u8 0]=arc .u8 8 [] from rfl),w62];intro ht; subst ht;simp only[simprocAttr, -Int.reduceNatCast',RR,RB];exact ai rfl (fin_ret (by simp only[simprocAttr, -Int.reduceNatCast',R0,fn_out,p197,Rs.ev,take_len_self,h_41,eq_true hlt,hw,w44,w45,w47a,w47b,w47c,w49a,w49b,w49c,w50,eq_true w50l,w52,w53,eq_false c54,w58,eq_true c59,w60,eq_true w60l,(show [V.int .u8 0,V.int .u8 0,V.int .u8 0,V.int .u8 0,V.int .u8 0,V.int .u8 0,V.int .u8 0,V.int .u8 0]=arc .u8 8 [] from rfl),w62]))
    ·rw[if_neg c59]at ho
     cases ho;simp only[simprocAttr, -Int.reduceNatCast',R0,b197_2,h_41,eq_true hlt,hw,w44,w45,w47a,w47b,w47c,w49a,w49b,w49c,w50,eq_true w50l,w52,w53,eq_false c54,w58,eq_false c59];refine ai rfl (ei _ (ai rfl ?_));simp only[simprocAttr, -Int.reduceNatCast',R0,h_41,eq_true hlt,hw,w44,w45,w47a,w47b,w47c,w49a,w49b,w49c,w50,eq_true w50l,w52,w53,eq_false c54,w58,eq_false c59]
  |false=>
   rw[if_neg Bool.false_ne_true]at ho;cases ho;simp only[simprocAttr, -Int.reduceNatCast',R0,b197_2,h_41,eq_true hlt,hw,w44,w45,w47a,w47b,w47c,w49a,w49b,w49c,w50,eq_true w50l,w52];intro ht; subst ht;simp only[simprocAttr, -Int.reduceNatCast',RR,RB];exact ai rfl (fin_ret (by simp only[simprocAttr, -Int.reduceNatCast',R0,fn_out,p197,Rs.ev,take_len_self,h_41,eq_true hlt,hw,w44,w45,w47a,w47b,w47c,w49a,w49b,w49c,w50,eq_true w50l,w52]))
 ·rintro v4_2 _ e h ⟨k42,rfl,h_41⟩ hge t1 ho
  unfold F197_2_D at ho;cases ho;simp only[simprocAttr, -Int.reduceNatCast',R0,b197_2,h_41,eq_false hge];intro ht; subst ht;refine ai rfl (ei _ (ai rfl ?_));simp only[simprocAttr, -Int.reduceNatCast',R0,h_41,eq_false hge]
def I197_1(a0:GDga)(v3_1:Int)(s:Unit)(e:Env)(h:Heap):Prop:=
 ∃k8:Nat,h=⟨[(0,none)],k8⟩∧e.length=198∧e.at 1=V.iptr (ceGDga a0)∧e.at 3=V.int .i64 v3_1
def P197_1(a0:GDga)(t:(Unit)⊕Bool)(x:Ex)(e:Env)(h:Heap):Prop:=
 match t with
 | .inl _=> x= .normal∧∃k8:Nat,h=⟨[(0,none)],k8⟩∧e.length=198∧e.at 1=V.iptr (ceGDga a0)
 | .inr r=> x= .ret∧Fin p197 (Enc.enc r) .ret e h
set_option maxHeartbeats 8000000 in
theorem l197_1(a0:GDga){lo:Int}{s:Unit}{t:(Unit)⊕Bool}(hF:forR lo 8 (F197_1_B a0) (F197_1_D a0) s=some t){e:Env}{h:Heap}(hI:I197_1 a0 lo s e h):W A c197_1 e h (P197_1 a0 t):=by
 show W A (.block 0 (.loop false b197_1)) e h _;rw[W_block];refine W_forR hF 1 (by obtain⟨_,rfl,_⟩:=hI; rfl) (I197_1 a0) hI ?_ ?_
 ·rintro v3_1 _ e h ⟨k8,rfl,h_7⟩ hlt hw o ho
  unfold F197_1_B at ho;have w10:ofCells none (List.drop 1 (ceGDga a0))=some (V.int .i64 a0.Size):=by first|exact ceGDga_Size_one (a:=_) rfl|(simp only[List.drop_drop]; exact ceGDga_Size_one (by omega))|(show ofCells none (List.drop 0 _)=_; exact ceGDga_Size_one rfl)
  by_cases c11:a0.Size≤v3_1
  ·rw[if_pos c11]at ho
   obtain⟨n12,gn12,ho⟩:=bS ho;obtain⟨w13a,w13b,w13c,w13d⟩:=ixI_w gn12;have w14:ofCells none (List.drop n12 (List.drop 2 (ceGDga a0)))=some (V.int .i64 (a0.Degrees.val.getD n12 0)):=by first|exact ceGDga_Degrees_one (i:=n12) (by omega) (by omega)|(simp only[List.drop_drop]; exact ceGDga_Degrees_one (i:=n12) (by omega) (by omega))|(show ofCells none (List.drop 0 _)=_; exact ceGDga_Degrees_one (i:=n12) (by omega) (by omega))
   by_cases c15:(a0.Degrees.val.getD n12 0)=0
   ·rw[if_pos c15]at ho
    have w16:ofCells none (List.drop n12 (List.drop 10 (ceGDga a0)))=some (V.int .i64 (a0.Levels.val.getD n12 0)):=by first|exact ceGDga_Levels_one (i:=n12) (by omega) (by omega)|(simp only[List.drop_drop]; exact ceGDga_Levels_one (i:=n12) (by omega) (by omega))|(show ofCells none (List.drop 0 _)=_; exact ceGDga_Levels_one (i:=n12) (by omega) (by omega))
    by_cases c17:(a0.Levels.val.getD n12 0)=0
    ·rw[if_pos c17]at ho
     have w18:List.take 8 (List.drop (n12*8) (List.drop 18 (ceGDga a0)))=arc .u8 8 (arP a0.Diff.val (n12*8) 8):=by first|exact ceGDga_Diff_part (i:=n12*8) (m:=8) (by omega) (by omega)|(simp only[List.drop_drop]; exact ceGDga_Diff_part (i:=n12*8) (m:=8) (by omega) (by omega))|(show List.take _ (List.drop 0 _)=_; exact ceGDga_Diff_part (i:=n12*8) (m:=8) (by omega) (by omega))
     have w18l:8≤List.length (List.drop (n12*8) (List.drop 18 (ceGDga a0))):=by simp only[List.length_drop,arc_len,ceGDga_len]; omega
     obtain⟨x19,gx19,ho⟩:=bS ho;have w20:eqSV true 12 (Lay.arr 8 8 1 (Lay.int Go.IntKind.u8)) (V.agg (arc .u8 8 (arP a0.Diff.val (n12*8) 8))) (V.agg (arc .u8 8 []))=some (V.bool (!x19)):=eqS_arc1 gx19;cases x19 with
     |true=>
      rw[if_pos rfl]at ho;have w21:ofCells none (ceGDga a0)=some (V.int .i64 a0.Prime):=by first|exact ceGDga_Prime_one (a:=_) rfl|(simp only[List.drop_drop]; exact ceGDga_Prime_one (by omega))|(show ofCells none (List.drop 0 _)=_; exact ceGDga_Prime_one rfl)
      have w22:ofCells none (List.drop 1 (ceGDga a0))=some (V.int .i64 a0.Size):=by first|exact ceGDga_Size_one (a:=_) rfl|(simp only[List.drop_drop]; exact ceGDga_Size_one (by omega))|(show ofCells none (List.drop 0 _)=_; exact ceGDga_Size_one rfl)
      have w23:List.take 8 (List.drop (n12*8) (List.drop 18 (ceGDga a0)))=arc .u8 8 (arP a0.Diff.val (n12*8) 8):=by first|exact ceGDga_Diff_part (i:=n12*8) (m:=8) (by omega) (by omega)|(simp only[List.drop_drop]; exact ceGDga_Diff_part (i:=n12*8) (m:=8) (by omega) (by omega))|(show List.take _ (List.drop 0 _)=_; exact ceGDga_Diff_part (i:=n12*8) (m:=8) (by omega) (by omega))
      have w23l:8≤List.length (List.drop (n12*8) (List.drop 18 (ceGDga a0))):=by simp only[List.length_drop,arc_len,ceGDga_len]; omega
      obtain⟨x24,gx24,ho⟩:=bS ho;have w25:ans A 181 [V.int .i64 a0.Prime,V.int .i64 a0.Size,V.agg (arc .u8 8 (arP a0.Diff.val (n12*8) 8))]=some (V.bool x24):=s181 a0.Prime a0.Size ⟨(arP a0.Diff.val (n12*8) 8)⟩ gx24;cases x24 with
      |true=>
       rw[if_pos rfl]at ho;have w26:ofCells none (List.drop n12 (List.drop 2 (ceGDga a0)))=some (V.int .i64 (a0.Degrees.val.getD n12 0)):=by first|exact ceGDga_Degrees_one (i:=n12) (by omega) (by omega)|(simp only[List.drop_drop]; exact ceGDga_Degrees_one (i:=n12) (by omega) (by omega))|(show ofCells none (List.drop 0 _)=_; exact ceGDga_Degrees_one (i:=n12) (by omega) (by omega))
       obtain⟨x27,gx27,ho⟩:=bS ho;have w28:ans A 54 [V.int .i64 (a0.Degrees.val.getD n12 0),V.int .i64 0,V.int .i64 5]=some (V.bool x27):=s54 (a0.Degrees.val.getD n12 0) 0 5 gx27;cases x27 with
       |true=>
        rw[if_pos rfl]at ho;have w29:ofCells none (List.drop n12 (List.drop 10 (ceGDga a0)))=some (V.int .i64 (a0.Levels.val.getD n12 0)):=by first|exact ceGDga_Levels_one (i:=n12) (by omega) (by omega)|(simp only[List.drop_drop]; exact ceGDga_Levels_one (i:=n12) (by omega) (by omega))|(show ofCells none (List.drop 0 _)=_; exact ceGDga_Levels_one (i:=n12) (by omega) (by omega))
        obtain⟨x30,gx30,ho⟩:=bS ho;have w31:ans A 54 [V.int .i64 (a0.Levels.val.getD n12 0),V.int .i64 0,V.int .i64 5]=some (V.bool x30):=s54 (a0.Levels.val.getD n12 0) 0 5 gx30;cases x30 with
        |true=>
         rw[if_pos rfl]at ho;by_cases c32:0 < v3_1
         ·rw[if_pos c32]at ho
          have w33:ofCells none (List.drop 1 (ceGDga a0))=some (V.int .i64 a0.Size):=by first|exact ceGDga_Size_one (a:=_) rfl|(simp only[List.drop_drop]; exact ceGDga_Size_one (by omega))|(show ofCells none (List.drop 0 _)=_; exact ceGDga_Size_one rfl)
          by_cases c34:v3_1 < a0.Size
          ·rw[if_pos c34]at ho
           have w35:ofCells none (List.drop n12 (List.drop 2 (ceGDga a0)))=some (V.int .i64 (a0.Degrees.val.getD n12 0)):=by first|exact ceGDga_Degrees_one (i:=n12) (by omega) (by omega)|(simp only[List.drop_drop]; exact ceGDga_Degrees_one (i:=n12) (by omega) (by omega))|(show ofCells none (List.drop 0 _)=_; exact ceGDga_Degrees_one (i:=n12) (by omega) (by omega))
           obtain⟨x36,gx36,ho⟩:=bS ho;have wx36:=chk_w gx36;obtain⟨n37,gn37,ho⟩:=bS ho;obtain⟨w38a,w38b,w38c,w38d⟩:=ixI_w gn37;have w39:ofCells none (List.drop n37 (List.drop 2 (ceGDga a0)))=some (V.int .i64 (a0.Degrees.val.getD n37 0)):=by first|exact ceGDga_Degrees_one (i:=n37) (by omega) (by omega)|(simp only[List.drop_drop]; exact ceGDga_Degrees_one (i:=n37) (by omega) (by omega))|(show ofCells none (List.drop 0 _)=_; exact ceGDga_Degrees_one (i:=n37) (by omega) (by omega))
           by_cases c40:(a0.Degrees.val.getD n12 0) < (a0.Degrees.val.getD n37 0)
           ·rw[if_pos c40]at ho
            cases ho;simp only[simprocAttr, -Int.reduceNatCast',R0,b197_1,h_7,eq_true hlt,hw,w10,eq_true c11,w13a,w13b,w13c,w14,eq_true c15,w16,eq_true c17,w18,eq_true w18l,(show [V.int .u8 0,V.int .u8 0,V.int .u8 0,V.int .u8 0,V.int .u8 0,V.int .u8 0,V.int .u8 0,V.int .u8 0]=arc .u8 8 [] from rfl),w20,w21,w22,w23,eq_true w23l,w25,w26,w28,w29,w31,eq_true c32,w33,eq_true c34,w35,wx36,w38a,w38b,w38c,w39,eq_true c40];intro ht; subst ht;simp only[simprocAttr, -Int.reduceNatCast',RR,RB];exact ai rfl (fin_ret (by simp only[simprocAttr, -Int.reduceNatCast',R0,fn_out,p197,Rs.ev,take_len_self,h_7,eq_true hlt,hw,w10,eq_true c11,w13a,w13b,w13c,w14,eq_true c15,w16,eq_true c17,w18,eq_true w18l,(show [V.int .u8 0,V.int .u8 0,V.int .u8 0,V.int .u8 0,V.int .u8 0,V.int .u8 0,V.int .u8 0,V.int .u8 0]=arc .u8 8 [] from rfl),w20,w21,w22,w23,eq_true w23l,w25,w26,w28,w29,w31,eq_true c32,w33,eq_true c34,w35,wx36,w38a,w38b,w38c,w39,eq_true c40]))
           ·rw[if_neg c40]at ho
            obtain⟨t63,gt63,ho⟩:=bS ho;rcases t63 with _|r64
            ·dsimp only at ho
             simp only[simprocAttr, -Int.reduceNatCast',R0,b197_1,h_7,eq_true hlt,hw,w10,eq_true c11,w13a,w13b,w13c,w14,eq_true c15,w16,eq_true c17,w18,eq_true w18l,(show [V.int .u8 0,V.int .u8 0,V.int .u8 0,V.int .u8 0,V.int .u8 0,V.int .u8 0,V.int .u8 0,V.int .u8 0]=arc .u8 8 [] from rfl),w20,w21,w22,w23,eq_true w23l,w25,w26,w28,w29,w31,eq_true c32,w33,eq_true c34,w35,wx36,w38a,w38b,w38c,w39,eq_false c40];refine W.mono (l197_2 a0 v3_1 gt63 (ei _ (ai rfl ?_))) ?_
             ·simp only[simprocAttr, -Int.reduceNatCast',R0,h_7,eq_true hlt,hw,w10,eq_true c11,w13a,w13b,w13c,w14,eq_true c15,w16,eq_true c17,w18,eq_true w18l,(show [V.int .u8 0,V.int .u8 0,V.int .u8 0,V.int .u8 0,V.int .u8 0,V.int .u8 0,V.int .u8 0,V.int .u8 0]=arc .u8 8 [] from rfl),w20,w21,w22,w23,eq_true w23l,w25,w26,w28,w29,w31,eq_true c32,w33,eq_true c34,w35,wx36,w38a,w38b,w38c,w39,eq_false c40]
             rintro _ e _ ⟨rfl,k42,rfl,h_43⟩;cases ho;simp only[simprocAttr, -Int.reduceNatCast',R0,h_43,eq_true hlt,hw,eq_true c11,eq_true c15,eq_true c17,eq_true w18l,eq_true w23l,eq_true c32,eq_true c34,eq_false c40];refine ai rfl (ei _ (ai rfl ?_));simp only[simprocAttr, -Int.reduceNatCast',R0,h_43,eq_true hlt,hw,eq_true c11,eq_true c15,eq_true c17,eq_true w18l,eq_true w23l,eq_true c32,eq_true c34,eq_false c40]
            ·dsimp only at ho
             cases ho;simp only[simprocAttr, -Int.reduceNatCast',R0,b197_1,h_7,eq_true hlt,hw,w10,eq_true c11,w13a,w13b,w13c,w14,eq_true c15,w16,eq_true c17,w18,eq_true w18l,(show [V.int .u8 0,V.int .u8 0,V.int .u8 0,V.int .u8 0,V.int .u8 0,V.int .u8 0,V.int .u8 0,V.int .u8 0]=arc .u8 8 [] from rfl),w20,w21,w22,w23,eq_true w23l,w25,w26,w28,w29,w31,eq_true c32,w33,eq_true c34,w35,wx36,w38a,w38b,w38c,w39,eq_false c40];refine W.mono (l197_2 a0 v3_1 gt63 (ei _ (ai rfl ?_))) ?_
             ·simp only[simprocAttr, -Int.reduceNatCast',R0,h_7,eq_true hlt,hw,w10,eq_true c11,w13a,w13b,w13c,w14,eq_true c15,w16,eq_true c17,w18,eq_true w18l,(show [V.int .u8 0,V.int .u8 0,V.int .u8 0,V.int .u8 0,V.int .u8 0,V.int .u8 0,V.int .u8 0,V.int .u8 0]=arc .u8 8 [] from rfl),w20,w21,w22,w23,eq_true w23l,w25,w26,w28,w29,w31,eq_true c32,w33,eq_true c34,w35,wx36,w38a,w38b,w38c,w39,eq_false c40]
             rintro _ e h ⟨rfl,hq⟩;simp only[simprocAttr, -Int.reduceNatCast',RR,RB];intro ht; subst ht;simp only[simprocAttr, -Int.reduceNatCast',RR,RB];exact ai rfl hq
          ·rw[if_neg c34]at ho
           obtain⟨t87,gt87,ho⟩:=bS ho;rcases t87 with _|r88
           ·dsimp only at ho
            simp only[simprocAttr, -Int.reduceNatCast',R0,b197_1,h_7,eq_true hlt,hw,w10,eq_true c11,w13a,w13b,w13c,w14,eq_true c15,w16,eq_true c17,w18,eq_true w18l,(show [V.int .u8 0,V.int .u8 0,V.int .u8 0,V.int .u8 0,V.int .u8 0,V.int .u8 0,V.int .u8 0,V.int .u8 0]=arc .u8 8 [] from rfl),w20,w21,w22,w23,eq_true w23l,w25,w26,w28,w29,w31,eq_true c32,w33,eq_false c34];refine W.mono (l197_2 a0 v3_1 gt87 (ei _ (ai rfl ?_))) ?_
            ·simp only[simprocAttr, -Int.reduceNatCast',R0,h_7,eq_true hlt,hw,w10,eq_true c11,w13a,w13b,w13c,w14,eq_true c15,w16,eq_true c17,w18,eq_true w18l,(show [V.int .u8 0,V.int .u8 0,V.int .u8 0,V.int .u8 0,V.int .u8 0,V.int .u8 0,V.int .u8 0,V.int .u8 0]=arc .u8 8 [] from rfl),w20,w21,w22,w23,eq_true w23l,w25,w26,w28,w29,w31,eq_true c32,w33,eq_false c34]
            rintro _ e _ ⟨rfl,k66,rfl,h_67⟩;cases ho;simp only[simprocAttr, -Int.reduceNatCast',R0,h_67,eq_true hlt,hw,eq_true c11,eq_true c15,eq_true c17,eq_true w18l,eq_true w23l,eq_true c32,eq_false c34];refine ai rfl (ei _ (ai rfl ?_));simp only[simprocAttr, -Int.reduceNatCast',R0,h_67,eq_true hlt,hw,eq_true c11,eq_true c15,eq_true c17,eq_true w18l,eq_true w23l,eq_true c32,eq_false c34]
           ·dsimp only at ho
            cases ho;simp only[simprocAttr, -Int.reduceNatCast',R0,b197_1,h_7,eq_true hlt,hw,w10,eq_true c11,w13a,w13b,w13c,w14,eq_true c15,w16,eq_true c17,w18,eq_true w18l,(show [V.int .u8 0,V.int .u8 0,V.int .u8 0,V.int .u8 0,V.int .u8 0,V.int .u8 0,V.int .u8 0,V.int .u8 0]=arc .u8 8 [] from rfl),w20,w21,w22,w23,eq_true w23l,w25,w26,w28,w29,w31,eq_true c32,w33,eq_false c34];refine W.mono (l197_2 a0 v3_1 gt87 (ei _ (ai rfl ?_))) ?_
            ·simp only[simprocAttr, -Int.reduceNatCast',R0,h_7,eq_true hlt,hw,w10,eq_true c11,w13a,w13b,w13c,w14,eq_true c15,w16,eq_true c17,w18,eq_true w18l,(show [V.int .u8 0,V.int .u8 0,V.int .u8 0,V.int .u8 0,V.int .u8 0,V.int .u8 0,V.int .u8 0,V.int .u8 0]=arc .u8 8 [] from rfl),w20,w21,w22,w23,eq_true w23l,w25,w26,w28,w29,w31,eq_true c32,w33,eq_false c34]
            rintro _ e h ⟨rfl,hq⟩;simp only[simprocAttr, -Int.reduceNatCast',RR,RB];intro ht; subst ht;simp only[simprocAttr, -Int.reduceNatCast',RR,RB];exact ai rfl hq
         ·rw[if_neg c32]at ho
          obtain⟨t111,gt111,ho⟩:=bS ho;rcases t111 with _|r112
          ·dsimp only at ho
           simp only[simprocAttr, -Int.reduceNatCast',R0,b197_1,h_7,eq_true hlt,hw,w10,eq_true c11,w13a,w13b,w13c,w14,eq_true c15,w16,eq_true c17,w18,eq_true w18l,(show [V.int .u8 0,V.int .u8 0,V.int .u8 0,V.int .u8 0,V.int .u8 0,V.int .u8 0,V.int .u8 0,V.int .u8 0]=arc .u8 8 [] from rfl),w20,w21,w22,w23,eq_true w23l,w25,w26,w28,w29,w31,eq_false c32];refine W.mono (l197_2 a0 v3_1 gt111 (ei _ (ai rfl ?_))) ?_
           ·simp only[simprocAttr, -Int.reduceNatCast',R0,h_7,eq_true hlt,hw,w10,eq_true c11,w13a,w13b,w13c,w14,eq_true c15,w16,eq_true c17,w18,eq_true w18l,(show [V.int .u8 0,V.int .u8 0,V.int .u8 0,V.int .u8 0,V.int .u8 0,V.int .u8 0,V.int .u8 0,V.int .u8 0]=arc .u8 8 [] from rfl),w20,w21,w22,w23,eq_true w23l,w25,w26,w28,w29,w31,eq_false c32]
           rintro _ e _ ⟨rfl,k90,rfl,h_91⟩;cases ho;simp only[simprocAttr, -Int.reduceNatCast',R0,h_91,eq_true hlt,hw,eq_true c11,eq_true c15,eq_true c17,eq_true w18l,eq_true w23l,eq_false c32];refine ai rfl (ei _ (ai rfl ?_));simp only[simprocAttr, -Int.reduceNatCast',R0,h_91,eq_true hlt,hw,eq_true c11,eq_true c15,eq_true c17,eq_true w18l,eq_true w23l,eq_false c32]
          ·dsimp only at ho
           cases ho;simp only[simprocAttr, -Int.reduceNatCast',R0,b197_1,h_7,eq_true hlt,hw,w10,eq_true c11,w13a,w13b,w13c,w14,eq_true c15,w16,eq_true c17,w18,eq_true w18l,(show [V.int .u8 0,V.int .u8 0,V.int .u8 0,V.int .u8 0,V.int .u8 0,V.int .u8 0,V.int .u8 0,V.int .u8 0]=arc .u8 8 [] from rfl),w20,w21,w22,w23,eq_true w23l,w25,w26,w28,w29,w31,eq_false c32];refine W.mono (l197_2 a0 v3_1 gt111 (ei _ (ai rfl ?_))) ?_
           ·simp only[simprocAttr, -Int.reduceNatCast',R0,h_7,eq_true hlt,hw,w10,eq_true c11,w13a,w13b,w13c,w14,eq_true c15,w16,eq_true c17,w18,eq_true w18l,(show [V.int .u8 0,V.int .u8 0,V.int .u8 0,V.int .u8 0,V.int .u8 0,V.int .u8 0,V.int .u8 0,V.int .u8 0]=arc .u8 8 [] from rfl),w20,w21,w22,w23,eq_true w23l,w25,w26,w28,w29,w31,eq_false c32]
           rintro _ e h ⟨rfl,hq⟩;simp only[simprocAttr, -Int.reduceNatCast',RR,RB];intro ht; subst ht;simp only[simprocAttr, -Int.reduceNatCast',RR,RB];exact ai rfl hq
        |false=>
         rw[if_neg Bool.false_ne_true]at ho;cases ho;simp only[simprocAttr, -Int.reduceNatCast',R0,b197_1,h_7,eq_true hlt,hw,w10,eq_true c11,w13a,w13b,w13c,w14,eq_true c15,w16,eq_true c17,w18,eq_true w18l,(show [V.int .u8 0,V.int .u8 0,V.int .u8 0,V.int .u8 0,V.int .u8 0,V.int .u8 0,V.int .u8 0,V.int .u8 0]=arc .u8 8 [] from rfl),w20,w21,w22,w23,eq_true w23l,w25,w26,w28,w29,w31];intro ht; subst ht;simp only[simprocAttr, -Int.reduceNatCast',RR,RB];exact ai rfl (fin_ret (by simp only[simprocAttr, -Int.reduceNatCast',R0,fn_out,p197,Rs.ev,take_len_self,h_7,eq_true hlt,hw,w10,eq_true c11,w13a,w13b,w13c,w14,eq_true c15,w16,eq_true c17,w18,eq_true w18l,(show [V.int .u8 0,V.int .u8 0,V.int .u8 0,V.int .u8 0,V.int .u8 0,V.int .u8 0,V.int .u8 0,V.int .u8 0]=arc .u8 8 [] from rfl),w20,w21,w22,w23,eq_true w23l,w25,w26,w28,w29,w31]))
       |false=>
        rw[if_neg Bool.false_ne_true]at ho;cases ho;simp only[simprocAttr, -Int.reduceNatCast',R0,b197_1,h_7,eq_true hlt,hw,w10,eq_true c11,w13a,w13b,w13c,w14,eq_true c15,w16,eq_true c17,w18,eq_true w18l,(show [V.int .u8 0,V.int .u8 0,V.int .u8 0,V.int .u8 0,V.int .u8 0,V.int .u8 0,V.int .u8 0,V.int .u8 0]=arc .u8 8 [] from rfl),w20,w21,w22,w23,eq_true w23l,w25,w26,w28];intro ht; subst ht;simp only[simprocAttr, -Int.reduceNatCast',RR,RB];exact ai rfl (fin_ret (by simp only[simprocAttr, -Int.reduceNatCast',R0,fn_out,p197,Rs.ev,take_len_self,h_7,eq_true hlt,hw,w10,eq_true c11,w13a,w13b,w13c,w14,eq_true c15,w16,eq_true c17,w18,eq_true w18l,(show [V.int .u8 0,V.int .u8 0,V.int .u8 0,V.int .u8 0,V.int .u8 0,V.int .u8 0,V.int .u8 0,V.int .u8 0]=arc .u8 8 [] from rfl),w20,w21,w22,w23,eq_true w23l,w25,w26,w28]))
      |false=>
       rw[if_neg Bool.false_ne_true]at ho;cases ho;simp only[simprocAttr, -Int.reduceNatCast',R0,b197_1,h_7,eq_true hlt,hw,w10,eq_true c11,w13a,w13b,w13c,w14,eq_true c15,w16,eq_true c17,w18,eq_true w18l,(show [V.int .u8 0,V.int .u8 0,V.int .u8 0,V.int .u8 0,V.int .u8 0,V.int .u8 0,V.int .u8 0,V.int .u8 0]=arc .u8 8 [] from rfl),w20,w21,w22,w23,eq_true w23l,w25];intro ht; subst ht;simp only[simprocAttr, -Int.reduceNatCast',RR,RB];exact ai rfl (fin_ret (by simp only[simprocAttr, -Int.reduceNatCast',R0,fn_out,p197,Rs.ev,take_len_self,h_7,eq_true hlt,hw,w10,eq_true c11,w13a,w13b,w13c,w14,eq_true c15,w16,eq_true c17,w18,eq_true w18l,(show [V.int .u8 0,V.int .u8 0,V.int .u8 0,V.int .u8 0,V.int .u8 0,V.int .u8 0,V.int .u8 0,V.int .u8 0]=arc .u8 8 [] from rfl),w20,w21,w22,w23,eq_true w23l,w25]))
     |false=>
      rw[if_neg Bool.false_ne_true]at ho;cases ho;simp only[simprocAttr, -Int.reduceNatCast',R0,b197_1,h_7,eq_true hlt,hw,w10,eq_true c11,w13a,w13b,w13c,w14,eq_true c15,w16,eq_true c17,w18,eq_true w18l,(show [V.int .u8 0,V.int .u8 0,V.int .u8 0,V.int .u8 0,V.int .u8 0,V.int .u8 0,V.int .u8 0,V.int .u8 0]=arc .u8 8 [] from rfl),w20];intro ht; subst ht;simp only[simprocAttr, -Int.reduceNatCast',RR,RB];exact ai rfl (fin_ret (by simp only[simprocAttr, -Int.reduceNatCast',R0,fn_out,p197,Rs.ev,take_len_self,h_7,eq_true hlt,hw,w10,eq_true c11,w13a,w13b,w13c,w14,eq_true c15,w16,eq_true c17,w18,eq_true w18l,(show [V.int .u8 0,V.int .u8 0,V.int .u8 0,V.int .u8 0,V.int .u8 0,V.int .u8 0,V.int .u8 0,V.int .u8 0]=arc .u8 8 [] from rfl),w20]))
    ·rw[if_neg c17]at ho
     cases ho;simp only[simprocAttr, -Int.reduceNatCast',R0,b197_1,h_7,eq_true hlt,hw,w10,eq_true c11,w13a,w13b,w13c,w14,eq_true c15,w16,eq_false c17];intro ht; subst ht;simp only[simprocAttr, -Int.reduceNatCast',RR,RB];exact ai rfl (fin_ret (by simp only[simprocAttr, -Int.reduceNatCast',R0,fn_out,p197,Rs.ev,take_len_self,h_7,eq_true hlt,hw,w10,eq_true c11,w13a,w13b,w13c,w14,eq_true c15,w16,eq_false c17]))
   ·rw[if_neg c15]at ho
    cases ho;simp only[simprocAttr, -Int.reduceNatCast',R0,b197_1,h_7,eq_true hlt,hw,w10,eq_true c11,w13a,w13b,w13c,w14,eq_false c15];intro ht; subst ht;simp only[simprocAttr, -Int.reduceNatCast',RR,RB];exact ai rfl (fin_ret (by simp only[simprocAttr, -Int.reduceNatCast',R0,fn_out,p197,Rs.ev,take_len_self,h_7,eq_true hlt,hw,w10,eq_true c11,w13a,w13b,w13c,w14,eq_false c15]))
  ·rw[if_neg c11]at ho
   have w113:ofCells none (ceGDga a0)=some (V.int .i64 a0.Prime):=by first|exact ceGDga_Prime_one (a:=_) rfl|(simp only[List.drop_drop]; exact ceGDga_Prime_one (by omega))|(show ofCells none (List.drop 0 _)=_; exact ceGDga_Prime_one rfl)
   have w114:ofCells none (List.drop 1 (ceGDga a0))=some (V.int .i64 a0.Size):=by first|exact ceGDga_Size_one (a:=_) rfl|(simp only[List.drop_drop]; exact ceGDga_Size_one (by omega))|(show ofCells none (List.drop 0 _)=_; exact ceGDga_Size_one rfl)
   obtain⟨n115,gn115,ho⟩:=bS ho;obtain⟨w116a,w116b,w116c,w116d⟩:=ixI_w gn115;have w117:List.take 8 (List.drop (n115*8) (List.drop 18 (ceGDga a0)))=arc .u8 8 (arP a0.Diff.val (n115*8) 8):=by first|exact ceGDga_Diff_part (i:=n115*8) (m:=8) (by omega) (by omega)|(simp only[List.drop_drop]; exact ceGDga_Diff_part (i:=n115*8) (m:=8) (by omega) (by omega))|(show List.take _ (List.drop 0 _)=_; exact ceGDga_Diff_part (i:=n115*8) (m:=8) (by omega) (by omega))
   have w117l:8≤List.length (List.drop (n115*8) (List.drop 18 (ceGDga a0))):=by simp only[List.length_drop,arc_len,ceGDga_len]; omega
   obtain⟨x118,gx118,ho⟩:=bS ho;have w119:ans A 181 [V.int .i64 a0.Prime,V.int .i64 a0.Size,V.agg (arc .u8 8 (arP a0.Diff.val (n115*8) 8))]=some (V.bool x118):=s181 a0.Prime a0.Size ⟨(arP a0.Diff.val (n115*8) 8)⟩ gx118;cases x118 with
   |true=>
    rw[if_pos rfl]at ho;have w120:ofCells none (List.drop n115 (List.drop 2 (ceGDga a0)))=some (V.int .i64 (a0.Degrees.val.getD n115 0)):=by first|exact ceGDga_Degrees_one (i:=n115) (by omega) (by omega)|(simp only[List.drop_drop]; exact ceGDga_Degrees_one (i:=n115) (by omega) (by omega))|(show ofCells none (List.drop 0 _)=_; exact ceGDga_Degrees_one (i:=n115) (by omega) (by omega))
    obtain⟨x121,gx121,ho⟩:=bS ho;have w122:ans A 54 [V.int .i64 (a0.Degrees.val.getD n115 0),V.int .i64 0,V.int .i64 5]=some (V.bool x121):=s54 (a0.Degrees.val.getD n115 0) 0 5 gx121;cases x121 with
    |true=>
     rw[if_pos rfl]at ho;have w123:ofCells none (List.drop n115 (List.drop 10 (ceGDga a0)))=some (V.int .i64 (a0.Levels.val.getD n115 0)):=by first|exact ceGDga_Levels_one (i:=n115) (by omega) (by omega)|(simp only[List.drop_drop]; exact ceGDga_Levels_one (i:=n115) (by omega) (by omega))|(show ofCells none (List.drop 0 _)=_; exact ceGDga_Levels_one (i:=n115) (by omega) (by omega))
     obtain⟨x124,gx124,ho⟩:=bS ho;have w125:ans A 54 [V.int .i64 (a0.Levels.val.getD n115 0),V.int .i64 0,V.int .i64 5]=some (V.bool x124):=s54 (a0.Levels.val.getD n115 0) 0 5 gx124;cases x124 with
     |true=>
      rw[if_pos rfl]at ho;by_cases c126:0 < v3_1
      ·rw[if_pos c126]at ho
       have w127:ofCells none (List.drop 1 (ceGDga a0))=some (V.int .i64 a0.Size):=by first|exact ceGDga_Size_one (a:=_) rfl|(simp only[List.drop_drop]; exact ceGDga_Size_one (by omega))|(show ofCells none (List.drop 0 _)=_; exact ceGDga_Size_one rfl)
       by_cases c128:v3_1 < a0.Size
       ·rw[if_pos c128]at ho
        have w129:ofCells none (List.drop n115 (List.drop 2 (ceGDga a0)))=some (V.int .i64 (a0.Degrees.val.getD n115 0)):=by first|exact ceGDga_Degrees_one (i:=n115) (by omega) (by omega)|(simp only[List.drop_drop]; exact ceGDga_Degrees_one (i:=n115) (by omega) (by omega))|(show ofCells none (List.drop 0 _)=_; exact ceGDga_Degrees_one (i:=n115) (by omega) (by omega))
        obtain⟨x130,gx130,ho⟩:=bS ho;have wx130:=chk_w gx130;obtain⟨n131,gn131,ho⟩:=bS ho;obtain⟨w132a,w132b,w132c,w132d⟩:=ixI_w gn131;have w133:ofCells none (List.drop n131 (List.drop 2 (ceGDga a0)))=some (V.int .i64 (a0.Degrees.val.getD n131 0)):=by first|exact ceGDga_Degrees_one (i:=n131) (by omega) (by omega)|(simp only[List.drop_drop]; exact ceGDga_Degrees_one (i:=n131) (by omega) (by omega))|(show ofCells none (List.drop 0 _)=_; exact ceGDga_Degrees_one (i:=n131) (by omega) (by omega))
        by_cases c134:(a0.Degrees.val.getD n115 0) < (a0.Degrees.val.getD n131 0)
        ·rw[if_pos c134]at ho
         cases ho;simp only[simprocAttr, -Int.reduceNatCast',R0,b197_1,h_7,eq_true hlt,hw,w10,eq_false c11,w113,w114,w116a,w116b,w116c,w117,eq_true w117l,w119,w120,w122,w123,w125,eq_true c126,w127,eq_true c128,w129,wx130,w132a,w132b,w132c,w133,eq_true c134];intro ht; subst ht;simp only[simprocAttr, -Int.reduceNatCast',RR,RB];exact ai rfl (fin_ret (by simp only[simprocAttr, -Int.reduceNatCast',R0,fn_out,p197,Rs.ev,take_len_self,h_7,eq_true hlt,hw,w10,eq_false c11,w113,w114,w116a,w116b,w116c,w117,eq_true w117l,w119,w120,w122,w123,w125,eq_true c126,w127,eq_true c128,w129,wx130,w132a,w132b,w132c,w133,eq_true c134]))
        ·rw[if_neg c134]at ho
         obtain⟨t157,gt157,ho⟩:=bS ho;rcases t157 with _|r158
         ·dsimp only at ho
          simp only[simprocAttr, -Int.reduceNatCast',R0,b197_1,h_7,eq_true hlt,hw,w10,eq_false c11,w113,w114,w116a,w116b,w116c,w117,eq_true w117l,w119,w120,w122,w123,w125,eq_true c126,w127,eq_true c128,w129,wx130,w132a,w132b,w132c,w133,eq_false c134];refine W.mono (l197_2 a0 v3_1 gt157 (ei _ (ai rfl ?_))) ?_
          ·simp only[simprocAttr, -Int.reduceNatCast',R0,h_7,eq_true hlt,hw,w10,eq_false c11,w113,w114,w116a,w116b,w116c,w117,eq_true w117l,w119,w120,w122,w123,w125,eq_true c126,w127,eq_true c128,w129,wx130,w132a,w132b,w132c,w133,eq_false c134]
          rintro _ e _ ⟨rfl,k136,rfl,h_137⟩;cases ho;simp only[simprocAttr, -Int.reduceNatCast',R0,h_137,eq_true hlt,hw,eq_false c11,eq_true w117l,eq_true c126,eq_true c128,eq_false c134];refine ai rfl (ei _ (ai rfl ?_));simp only[simprocAttr, -Int.reduceNatCast',R0,h_137,eq_true hlt,hw,eq_false c11,eq_true w117l,eq_true c126,eq_true c128,eq_false c134]
         ·dsimp only at ho
          cases ho;simp only[simprocAttr, -Int.reduceNatCast',R0,b197_1,h_7,eq_true hlt,hw,w10,eq_false c11,w113,w114,w116a,w116b,w116c,w117,eq_true w117l,w119,w120,w122,w123,w125,eq_true c126,w127,eq_true c128,w129,wx130,w132a,w132b,w132c,w133,eq_false c134];refine W.mono (l197_2 a0 v3_1 gt157 (ei _ (ai rfl ?_))) ?_
          ·simp only[simprocAttr, -Int.reduceNatCast',R0,h_7,eq_true hlt,hw,w10,eq_false c11,w113,w114,w116a,w116b,w116c,w117,eq_true w117l,w119,w120,w122,w123,w125,eq_true c126,w127,eq_true c128,w129,wx130,w132a,w132b,w132c,w133,eq_false c134]
          rintro _ e h ⟨rfl,hq⟩;simp only[simprocAttr, -Int.reduceNatCast',RR,RB];intro ht; subst ht;simp only[simprocAttr, -Int.reduceNatCast',RR,RB];exact ai rfl hq
       ·rw[if_neg c128]at ho
        obtain⟨t181,gt181,ho⟩:=bS ho;rcases t181 with _|r182
        ·dsimp only at ho
         simp only[simprocAttr, -Int.reduceNatCast',R0,b197_1,h_7,eq_true hlt,hw,w10,eq_false c11,w113,w114,w116a,w116b,w116c,w117,eq_true w117l,w119,w120,w122,w123,w125,eq_true c126,w127,eq_false c128];refine W.mono (l197_2 a0 v3_1 gt181 (ei _ (ai rfl ?_))) ?_
         ·simp only[simprocAttr, -Int.reduceNatCast',R0,h_7,eq_true hlt,hw,w10,eq_false c11,w113,w114,w116a,w116b,w116c,w117,eq_true w117l,w119,w120,w122,w123,w125,eq_true c126,w127,eq_false c128]
         rintro _ e _ ⟨rfl,k160,rfl,h_161⟩;cases ho;simp only[simprocAttr, -Int.reduceNatCast',R0,h_161,eq_true hlt,hw,eq_false c11,eq_true w117l,eq_true c126,eq_false c128];refine ai rfl (ei _ (ai rfl ?_));simp only[simprocAttr, -Int.reduceNatCast',R0,h_161,eq_true hlt,hw,eq_false c11,eq_true w117l,eq_true c126,eq_false c128]
        ·dsimp only at ho
         cases ho;simp only[simprocAttr, -Int.reduceNatCast',R0,b197_1,h_7,eq_true hlt,hw,w10,eq_false c11,w113,w114,w116a,w116b,w116c,w117,eq_true w117l,w119,w120,w122,w123,w125,eq_true c126,w127,eq_false c128];refine W.mono (l197_2 a0 v3_1 gt181 (ei _ (ai rfl ?_))) ?_
         ·simp only[simprocAttr, -Int.reduceNatCast',R0,h_7,eq_true hlt,hw,w10,eq_false c11,w113,w114,w116a,w116b,w116c,w117,eq_true w117l,w119,w120,w122,w123,w125,eq_true c126,w127,eq_false c128]
         rintro _ e h ⟨rfl,hq⟩;simp only[simprocAttr, -Int.reduceNatCast',RR,RB];intro ht; subst ht;simp only[simprocAttr, -Int.reduceNatCast',RR,RB];exact ai rfl hq
      ·rw[if_neg c126]at ho
       obtain⟨t205,gt205,ho⟩:=bS ho;rcases t205 with _|r206
       ·dsimp only at ho
        simp only[simprocAttr, -Int.reduceNatCast',R0,b197_1,h_7,eq_true hlt,hw,w10,eq_false c11,w113,w114,w116a,w116b,w116c,w117,eq_true w117l,w119,w120,w122,w123,w125,eq_false c126];refine W.mono (l197_2 a0 v3_1 gt205 (ei _ (ai rfl ?_))) ?_
        ·simp only[simprocAttr, -Int.reduceNatCast',R0,h_7,eq_true hlt,hw,w10,eq_false c11,w113,w114,w116a,w116b,w116c,w117,eq_true w117l,w119,w120,w122,w123,w125,eq_false c126]
        rintro _ e _ ⟨rfl,k184,rfl,h_185⟩;cases ho;simp only[simprocAttr, -Int.reduceNatCast',R0,h_185,eq_true hlt,hw,eq_false c11,eq_true w117l,eq_false c126];refine ai rfl (ei _ (ai rfl ?_));simp only[simprocAttr, -Int.reduceNatCast',R0,h_185,eq_true hlt,hw,eq_false c11,eq_true w117l,eq_false c126]
       ·dsimp only at ho
        cases ho;simp only[simprocAttr, -Int.reduceNatCast',R0,b197_1,h_7,eq_true hlt,hw,w10,eq_false c11,w113,w114,w116a,w116b,w116c,w117,eq_true w117l,w119,w120,w122,w123,w125,eq_false c126];refine W.mono (l197_2 a0 v3_1 gt205 (ei _ (ai rfl ?_))) ?_
        ·simp only[simprocAttr, -Int.reduceNatCast',R0,h_7,eq_true hlt,hw,w10,eq_false c11,w113,w114,w116a,w116b,w116c,w117,eq_true w117l,w119,w120,w122,w123,w125,eq_false c126]
        rintro _ e h ⟨rfl,hq⟩;simp only[simprocAttr, -Int.reduceNatCast',RR,RB];intro ht; subst ht;simp only[simprocAttr, -Int.reduceNatCast',RR,RB];exact ai rfl hq
     |false=>
      rw[if_neg Bool.false_ne_true]at ho;cases ho;simp only[simprocAttr, -Int.reduceNatCast',R0,b197_1,h_7,eq_true hlt,hw,w10,eq_false c11,w113,w114,w116a,w116b,w116c,w117,eq_true w117l,w119,w120,w122,w123,w125];intro ht; subst ht;simp only[simprocAttr, -Int.reduceNatCast',RR,RB];exact ai rfl (fin_ret (by simp only[simprocAttr, -Int.reduceNatCast',R0,fn_out,p197,Rs.ev,take_len_self,h_7,eq_true hlt,hw,w10,eq_false c11,w113,w114,w116a,w116b,w116c,w117,eq_true w117l,w119,w120,w122,w123,w125]))
    |false=>
     rw[if_neg Bool.false_ne_true]at ho;cases ho;simp only[simprocAttr, -Int.reduceNatCast',R0,b197_1,h_7,eq_true hlt,hw,w10,eq_false c11,w113,w114,w116a,w116b,w116c,w117,eq_true w117l,w119,w120,w122];intro ht; subst ht;simp only[simprocAttr, -Int.reduceNatCast',RR,RB];exact ai rfl (fin_ret (by simp only[simprocAttr, -Int.reduceNatCast',R0,fn_out,p197,Rs.ev,take_len_self,h_7,eq_true hlt,hw,w10,eq_false c11,w113,w114,w116a,w116b,w116c,w117,eq_true w117l,w119,w120,w122]))
   |false=>
    rw[if_neg Bool.false_ne_true]at ho;cases ho;simp only[simprocAttr, -Int.reduceNatCast',R0,b197_1,h_7,eq_true hlt,hw,w10,eq_false c11,w113,w114,w116a,w116b,w116c,w117,eq_true w117l,w119];intro ht; subst ht;simp only[simprocAttr, -Int.reduceNatCast',RR,RB];exact ai rfl (fin_ret (by simp only[simprocAttr, -Int.reduceNatCast',R0,fn_out,p197,Rs.ev,take_len_self,h_7,eq_true hlt,hw,w10,eq_false c11,w113,w114,w116a,w116b,w116c,w117,eq_true w117l,w119]))
 ·rintro v3_1 _ e h ⟨k8,rfl,h_7⟩ hge t1 ho
  unfold F197_1_D at ho;cases ho;simp only[simprocAttr, -Int.reduceNatCast',R0,b197_1,h_7,eq_false hge];intro ht; subst ht;refine ai rfl (ei _ (ai rfl ?_));simp only[simprocAttr, -Int.reduceNatCast',R0,h_7,eq_false hge]
def I197_4(a0:GDga)(v5_3:Int)(v6_4:Int)(s:Unit)(e:Env)(h:Heap):Prop:=
 ∃k221:Nat,h=⟨[(0,none)],k221⟩∧e.length=198∧e.at 1=V.iptr (ceGDga a0)∧e.at 5=V.int .i64 v5_3∧e.at 6=V.int .i64 v6_4
def P197_4(a0:GDga)(v5_3:Int)(t:(Unit)⊕Bool)(x:Ex)(e:Env)(h:Heap):Prop:=
 match t with
 | .inl _=> x= .normal∧∃k221:Nat,h=⟨[(0,none)],k221⟩∧e.length=198∧e.at 1=V.iptr (ceGDga a0)∧e.at 5=V.int .i64 v5_3
 | .inr r=> x= .ret∧Fin p197 (Enc.enc r) .ret e h
theorem l197_4(a0:GDga)(v5_3:Int){lo:Int}{s:Unit}{t:(Unit)⊕Bool}(hF:forR lo a0.Size (F197_4_B a0 v5_3) (F197_4_D a0 v5_3) s=some t){e:Env}{h:Heap}(hI:I197_4 a0 v5_3 lo s e h):W A c197_4 e h (P197_4 a0 v5_3 t):=by
 show W A (.block 6 (.loop false b197_4)) e h _;rw[W_block];refine W_forR hF 1 (by obtain⟨_,rfl,_⟩:=hI; rfl) (I197_4 a0 v5_3) hI ?_ ?_
 ·rintro v6_4 _ e h ⟨k221,rfl,h_220⟩ hlt hw o ho
  unfold F197_4_B at ho;have w223:ofCells none (List.drop 1 (ceGDga a0))=some (V.int .i64 a0.Size):=by first|exact ceGDga_Size_one (a:=_) rfl|(simp only[List.drop_drop]; exact ceGDga_Size_one (by omega))|(show ofCells none (List.drop 0 _)=_; exact ceGDga_Size_one rfl)
  obtain⟨n224,gn224,ho⟩:=bS ho;obtain⟨w225a,w225b,w225c,w225d⟩:=ixI_w gn224;obtain⟨n226,gn226,ho⟩:=bS ho;obtain⟨w227a,w227b,w227c,w227d⟩:=ixI_w gn226;have w228:List.take 8 (List.drop (n226*8) (List.drop (n224*64) (List.drop 82 (ceGDga a0))))=arc .u8 8 (arP a0.Table.val (n224*64+n226*8) 8):=by first|exact ceGDga_Table_part (i:=n224*64+n226*8) (m:=8) (by omega) (by omega)|(simp only[List.drop_drop]; exact ceGDga_Table_part (i:=n224*64+n226*8) (m:=8) (by omega) (by omega))|(show List.take _ (List.drop 0 _)=_; exact ceGDga_Table_part (i:=n224*64+n226*8) (m:=8) (by omega) (by omega))
  have w228l:8≤List.length (List.drop (n226*8) (List.drop (n224*64) (List.drop 82 (ceGDga a0)))):=by simp only[List.length_drop,arc_len,ceGDga_len]; omega
  have w229:ofCells none (List.drop n224 (List.drop 2 (ceGDga a0)))=some (V.int .i64 (a0.Degrees.val.getD n224 0)):=by first|exact ceGDga_Degrees_one (i:=n224) (by omega) (by omega)|(simp only[List.drop_drop]; exact ceGDga_Degrees_one (i:=n224) (by omega) (by omega))|(show ofCells none (List.drop 0 _)=_; exact ceGDga_Degrees_one (i:=n224) (by omega) (by omega))
  have w230:ofCells none (List.drop n226 (List.drop 2 (ceGDga a0)))=some (V.int .i64 (a0.Degrees.val.getD n226 0)):=by first|exact ceGDga_Degrees_one (i:=n226) (by omega) (by omega)|(simp only[List.drop_drop]; exact ceGDga_Degrees_one (i:=n226) (by omega) (by omega))|(show ofCells none (List.drop 0 _)=_; exact ceGDga_Degrees_one (i:=n226) (by omega) (by omega))
  obtain⟨x231,gx231,ho⟩:=bS ho;have wx231:=chk_w gx231;have w232:ofCells none (List.drop n224 (List.drop 10 (ceGDga a0)))=some (V.int .i64 (a0.Levels.val.getD n224 0)):=by first|exact ceGDga_Levels_one (i:=n224) (by omega) (by omega)|(simp only[List.drop_drop]; exact ceGDga_Levels_one (i:=n224) (by omega) (by omega))|(show ofCells none (List.drop 0 _)=_; exact ceGDga_Levels_one (i:=n224) (by omega) (by omega))
  have w233:ofCells none (List.drop n226 (List.drop 10 (ceGDga a0)))=some (V.int .i64 (a0.Levels.val.getD n226 0)):=by first|exact ceGDga_Levels_one (i:=n226) (by omega) (by omega)|(simp only[List.drop_drop]; exact ceGDga_Levels_one (i:=n226) (by omega) (by omega))|(show ofCells none (List.drop 0 _)=_; exact ceGDga_Levels_one (i:=n226) (by omega) (by omega))
  obtain⟨x234,gx234,ho⟩:=bS ho;have wx234:=chk_w gx234;obtain⟨x235,gx235,ho⟩:=bS ho;have w236:ans A 210 [V.agg (ceGDga a0),V.agg (arc .u8 8 (arP a0.Table.val (n224*64+n226*8) 8)),V.int .i64 x231,V.int .i64 x234]=some (V.bool x235):=s210 a0 ⟨(arP a0.Table.val (n224*64+n226*8) 8)⟩ x231 x234 gx235;cases x235 with
  |true=>
   rw[if_pos rfl]at ho;cases ho;simp only[simprocAttr, -Int.reduceNatCast',R0,b197_4,h_220,eq_true hlt,hw,w223,w225a,w225b,w225c,w227a,w227b,w227c,w228,eq_true w228l,w229,w230,wx231,w232,w233,wx234,w236];refine ai rfl (ei _ (ai rfl ?_));simp only[simprocAttr, -Int.reduceNatCast',R0,h_220,eq_true hlt,hw,w223,w225a,w225b,w225c,w227a,w227b,w227c,w228,eq_true w228l,w229,w230,wx231,w232,w233,wx234,w236]
  |false=>
   rw[if_neg Bool.false_ne_true]at ho;cases ho;simp only[simprocAttr, -Int.reduceNatCast',R0,b197_4,h_220,eq_true hlt,hw,w223,w225a,w225b,w225c,w227a,w227b,w227c,w228,eq_true w228l,w229,w230,wx231,w232,w233,wx234,w236];intro ht; subst ht;simp only[simprocAttr, -Int.reduceNatCast',RR,RB];exact ai rfl (fin_ret (by simp only[simprocAttr, -Int.reduceNatCast',R0,fn_out,p197,Rs.ev,take_len_self,h_220,eq_true hlt,hw,w223,w225a,w225b,w225c,w227a,w227b,w227c,w228,eq_true w228l,w229,w230,wx231,w232,w233,wx234,w236]))
 ·rintro v6_4 _ e h ⟨k221,rfl,h_220⟩ hge t1 ho
  unfold F197_4_D at ho;have w237:ofCells none (List.drop 1 (ceGDga a0))=some (V.int .i64 a0.Size):=by first|exact ceGDga_Size_one (a:=_) rfl|(simp only[List.drop_drop]; exact ceGDga_Size_one (by omega))|(show ofCells none (List.drop 0 _)=_; exact ceGDga_Size_one rfl)
  cases ho;simp only[simprocAttr, -Int.reduceNatCast',R0,b197_4,h_220,eq_false hge,w237];intro ht; subst ht;refine ai rfl (ei _ (ai rfl ?_));simp only[simprocAttr, -Int.reduceNatCast',R0,h_220,eq_false hge,w237]
def I197_3(a0:GDga)(v5_3:Int)(s:Unit)(e:Env)(h:Heap):Prop:=
 ∃k209:Nat,h=⟨[(0,none)],k209⟩∧e.length=198∧e.at 1=V.iptr (ceGDga a0)∧e.at 5=V.int .i64 v5_3
def P197_3(a0:GDga)(t:(Unit)⊕Bool)(x:Ex)(e:Env)(h:Heap):Prop:=
 match t with
 | .inl _=> x= .normal∧∃k209:Nat,h=⟨[(0,none)],k209⟩∧e.length=198∧e.at 1=V.iptr (ceGDga a0)
 | .inr r=> x= .ret∧Fin p197 (Enc.enc r) .ret e h
theorem l197_3(a0:GDga){lo:Int}{s:Unit}{t:(Unit)⊕Bool}(hF:forR lo a0.Size (F197_3_B a0) (F197_3_D a0) s=some t){e:Env}{h:Heap}(hI:I197_3 a0 lo s e h):W A c197_3 e h (P197_3 a0 t):=by
 show W A (.block 4 (.loop false b197_3)) e h _;rw[W_block];refine W_forR hF 1 (by obtain⟨_,rfl,_⟩:=hI; rfl) (I197_3 a0) hI ?_ ?_
 ·rintro v5_3 _ e h ⟨k209,rfl,h_208⟩ hlt hw o ho
  unfold F197_3_B at ho;have w211:ofCells none (List.drop 1 (ceGDga a0))=some (V.int .i64 a0.Size):=by first|exact ceGDga_Size_one (a:=_) rfl|(simp only[List.drop_drop]; exact ceGDga_Size_one (by omega))|(show ofCells none (List.drop 0 _)=_; exact ceGDga_Size_one rfl)
  obtain⟨n212,gn212,ho⟩:=bS ho;obtain⟨w213a,w213b,w213c,w213d⟩:=ixI_w gn212;have w214:List.take 8 (List.drop (n212*8) (List.drop 18 (ceGDga a0)))=arc .u8 8 (arP a0.Diff.val (n212*8) 8):=by first|exact ceGDga_Diff_part (i:=n212*8) (m:=8) (by omega) (by omega)|(simp only[List.drop_drop]; exact ceGDga_Diff_part (i:=n212*8) (m:=8) (by omega) (by omega))|(show List.take _ (List.drop 0 _)=_; exact ceGDga_Diff_part (i:=n212*8) (m:=8) (by omega) (by omega))
  have w214l:8≤List.length (List.drop (n212*8) (List.drop 18 (ceGDga a0))):=by simp only[List.length_drop,arc_len,ceGDga_len]; omega
  have w215:ofCells none (List.drop n212 (List.drop 2 (ceGDga a0)))=some (V.int .i64 (a0.Degrees.val.getD n212 0)):=by first|exact ceGDga_Degrees_one (i:=n212) (by omega) (by omega)|(simp only[List.drop_drop]; exact ceGDga_Degrees_one (i:=n212) (by omega) (by omega))|(show ofCells none (List.drop 0 _)=_; exact ceGDga_Degrees_one (i:=n212) (by omega) (by omega))
  obtain⟨x216,gx216,ho⟩:=bS ho;have wx216:=chk_w gx216;have w217:ofCells none (List.drop n212 (List.drop 10 (ceGDga a0)))=some (V.int .i64 (a0.Levels.val.getD n212 0)):=by first|exact ceGDga_Levels_one (i:=n212) (by omega) (by omega)|(simp only[List.drop_drop]; exact ceGDga_Levels_one (i:=n212) (by omega) (by omega))|(show ofCells none (List.drop 0 _)=_; exact ceGDga_Levels_one (i:=n212) (by omega) (by omega))
  obtain⟨x218,gx218,ho⟩:=bS ho;have w219:ans A 210 [V.agg (ceGDga a0),V.agg (arc .u8 8 (arP a0.Diff.val (n212*8) 8)),V.int .i64 x216,V.int .i64 (a0.Levels.val.getD n212 0)]=some (V.bool x218):=s210 a0 ⟨(arP a0.Diff.val (n212*8) 8)⟩ x216 (a0.Levels.val.getD n212 0) gx218;cases x218 with
  |true=>
   rw[if_pos rfl]at ho;obtain⟨t238,gt238,ho⟩:=bS ho;rcases t238 with _|r239
   ·dsimp only at ho
    simp only[simprocAttr, -Int.reduceNatCast',R0,b197_3,h_208,eq_true hlt,hw,w211,w213a,w213b,w213c,w214,eq_true w214l,w215,wx216,w217,w219];refine W.mono (l197_4 a0 v5_3 gt238 (ei _ (ai rfl ?_))) ?_
    ·simp only[simprocAttr, -Int.reduceNatCast',R0,h_208,eq_true hlt,hw,w211,w213a,w213b,w213c,w214,eq_true w214l,w215,wx216,w217,w219]
    rintro _ e _ ⟨rfl,k221,rfl,h_222⟩;cases ho;simp only[simprocAttr, -Int.reduceNatCast',R0,h_222,eq_true hlt,hw,eq_true w214l];refine ai rfl (ei _ (ai rfl ?_));simp only[simprocAttr, -Int.reduceNatCast',R0,h_222,eq_true hlt,hw,eq_true w214l]
   ·dsimp only at ho
    cases ho;simp only[simprocAttr, -Int.reduceNatCast',R0,b197_3,h_208,eq_true hlt,hw,w211,w213a,w213b,w213c,w214,eq_true w214l,w215,wx216,w217,w219];refine W.mono (l197_4 a0 v5_3 gt238 (ei _ (ai rfl ?_))) ?_
    ·simp only[simprocAttr, -Int.reduceNatCast',R0,h_208,eq_true hlt,hw,w211,w213a,w213b,w213c,w214,eq_true w214l,w215,wx216,w217,w219]
    rintro _ e h ⟨rfl,hq⟩;simp only[simprocAttr, -Int.reduceNatCast',RR,RB];intro ht; subst ht;simp only[simprocAttr, -Int.reduceNatCast',RR,RB];exact ai rfl hq
  |false=>
   rw[if_neg Bool.false_ne_true]at ho;cases ho;simp only[simprocAttr, -Int.reduceNatCast',R0,b197_3,h_208,eq_true hlt,hw,w211,w213a,w213b,w213c,w214,eq_true w214l,w215,wx216,w217,w219];intro ht; subst ht;simp only[simprocAttr, -Int.reduceNatCast',RR,RB];exact ai rfl (fin_ret (by simp only[simprocAttr, -Int.reduceNatCast',R0,fn_out,p197,Rs.ev,take_len_self,h_208,eq_true hlt,hw,w211,w213a,w213b,w213c,w214,eq_true w214l,w215,wx216,w217,w219]))
 ·rintro v5_3 _ e h ⟨k209,rfl,h_208⟩ hge t1 ho
  unfold F197_3_D at ho;have w240:ofCells none (List.drop 1 (ceGDga a0))=some (V.int .i64 a0.Size):=by first|exact ceGDga_Size_one (a:=_) rfl|(simp only[List.drop_drop]; exact ceGDga_Size_one (by omega))|(show ofCells none (List.drop 0 _)=_; exact ceGDga_Size_one rfl)
  cases ho;simp only[simprocAttr, -Int.reduceNatCast',R0,b197_3,h_208,eq_false hge,w240];intro ht; subst ht;refine ai rfl (ei _ (ai rfl ?_));simp only[simprocAttr, -Int.reduceNatCast',R0,h_208,eq_false hge,w240]
theorem s197(a0:GDga){r:Bool}(hF:F197 a0=some r):ans A 197 [V.agg (ceGDga a0)]=some (Enc.enc r):=by
 refine ans_of (f:=p197) rfl rfl rfl fun e hl he=>?_;have h0_0:e.at 0=V.agg (ceGDga a0):=he 0 _ rfl;have hl_0:e.length=198:=hl;clear he hl;have h_0:=ai hl_0 h0_0;show W A b197 e ⟨[],0⟩ _;unfold F197 at hF;have w1:ofCells none (ceGDga a0)=some (V.int .i64 a0.Prime):=by first|exact ceGDga_Prime_one (a:=_) rfl|(simp only[List.drop_drop]; exact ceGDga_Prime_one (by omega))|(show ofCells none (List.drop 0 _)=_; exact ceGDga_Prime_one rfl)
 obtain⟨x2,gx2,hF⟩:=bS hF;have w3:ans A 78 [V.int .i64 a0.Prime]=some (V.bool x2):=s78 a0.Prime gx2;cases x2 with
 |true=>
  rw[if_pos rfl]at hF;have w4:ofCells none (List.drop 1 (ceGDga a0))=some (V.int .i64 a0.Size):=by first|exact ceGDga_Size_one (a:=_) rfl|(simp only[List.drop_drop]; exact ceGDga_Size_one (by omega))|(show ofCells none (List.drop 0 _)=_; exact ceGDga_Size_one rfl)
  obtain⟨x5,gx5,hF⟩:=bS hF;have w6:ans A 54 [V.int .i64 a0.Size,V.int .i64 1,V.int .i64 8]=some (V.bool x5):=s54 a0.Size 1 8 gx5;cases x5 with
  |true=>
   rw[if_pos rfl]at hF;obtain⟨t207,gt207,hF⟩:=bS hF;rcases t207 with _|r246
   ·dsimp only at hF
    simp only[simprocAttr,R0,b197,h_0,w1,w3,w4,w6];refine W.mono (l197_1 a0 gt207 (ei _ (ai rfl ?_))) ?_
    ·simp only[simprocAttr,R0,h_0,w1,w3,w4,w6]
    rintro _ e _ ⟨rfl,k8,rfl,h_9⟩;obtain⟨t241,gt241,hF⟩:=bS hF;rcases t241 with _|r245
    ·dsimp only at hF
     simp only[simprocAttr,R0,h_9];refine W.mono (l197_3 a0 gt241 (ei _ (ai rfl ?_))) ?_
     ·simp only[simprocAttr,R0,h_9]
     rintro _ e _ ⟨rfl,k209,rfl,h_210⟩;have w242:ofCells none (List.drop 2 (ceGDga a0))=some (V.int .i64 (a0.Degrees.val.getD 0 0)):=by first|exact ceGDga_Degrees_one (i:=0) (by omega) (by omega)|(simp only[List.drop_drop]; exact ceGDga_Degrees_one (i:=0) (by omega) (by omega))|(show ofCells none (List.drop 0 _)=_; exact ceGDga_Degrees_one (i:=0) (by omega) (by omega))
     by_cases c243:(a0.Degrees.val.getD 0 0)=0
     ·rw[if_pos c243]at hF
      have w244:ofCells none (List.drop 10 (ceGDga a0))=some (V.int .i64 (a0.Levels.val.getD 0 0)):=by first|exact ceGDga_Levels_one (i:=0) (by omega) (by omega)|(simp only[List.drop_drop]; exact ceGDga_Levels_one (i:=0) (by omega) (by omega))|(show ofCells none (List.drop 0 _)=_; exact ceGDga_Levels_one (i:=0) (by omega) (by omega))
      cases hF;simp only[simprocAttr,R0,h_210,(eq_true (show(0:Int) < ((8:Nat):Int) from by decide)),w242,eq_true c243,w244];exact fin_ret (by simp only[simprocAttr,R0,fn_out,p197,Rs.ev,take_len_self,h_210,(eq_true (show(0:Int) < ((8:Nat):Int) from by decide)),w242,eq_true c243,w244])
     ·rw[if_neg c243]at hF
      cases hF;simp only[simprocAttr,R0,h_210,(eq_true (show(0:Int) < ((8:Nat):Int) from by decide)),w242,eq_false c243];exact fin_ret (by simp only[simprocAttr,R0,fn_out,p197,Rs.ev,take_len_self,h_210,(eq_true (show(0:Int) < ((8:Nat):Int) from by decide)),w242,eq_false c243])
    ·dsimp only at hF
     cases hF;simp only[simprocAttr,R0,h_9];refine W.mono (l197_3 a0 gt241 (ei _ (ai rfl ?_))) ?_
     ·simp only[simprocAttr,R0,h_9]
     rintro _ e h ⟨rfl,hq⟩;simp only[simprocAttr,RR,RB];exact hq
   ·dsimp only at hF
    cases hF;simp only[simprocAttr,R0,b197,h_0,w1,w3,w4,w6];refine W.mono (l197_1 a0 gt207 (ei _ (ai rfl ?_))) ?_
    ·simp only[simprocAttr,R0,h_0,w1,w3,w4,w6]
    rintro _ e h ⟨rfl,hq⟩;simp only[simprocAttr,RR,RB];exact hq
  |false=>
   rw[if_neg Bool.false_ne_true]at hF;cases hF;simp only[simprocAttr,R0,b197,h_0,w1,w3,w4,w6];exact fin_ret (by simp only[simprocAttr,R0,fn_out,p197,Rs.ev,take_len_self,h_0,w1,w3,w4,w6])
 |false=>
  rw[if_neg Bool.false_ne_true]at hF;cases hF;simp only[simprocAttr,R0,b197,h_0,w1,w3];exact fin_ret (by simp only[simprocAttr,R0,fn_out,p197,Rs.ev,take_len_self,h_0,w1,w3])
def F198_1_B(a0:GDga)(a1:Ar .u8 8)(v6_1:Int)(o3_1:(List Int)):Option (((List Int))⊕((List Int))):=
 (ixI 8 v6_1).bind fun n9=>
(chk (a1.val.getD n9 0)).bind fun x13=>
(F105 a0.Prime ⟨o3_1⟩ ⟨(arP a0.Diff.val (n9*8) 8)⟩ x13).bind fun x14=>
some (.inl x14.val)
def F198_1_D(a0:GDga)(a1:Ar .u8 8)(v6_1:Int)(o3_1:(List Int)):Option ((List Int)):=
 some o3_1
def F198(a0:GDga)(a1:Ar .u8 8):Option (Ar .u8 8):=
 (forR 0 a0.Size (F198_1_B a0 a1) (F198_1_D a0 a1) ([]:(List Int))).bind fun zo3_1=>
 some ⟨zo3_1⟩
def I198_1(a0:GDga)(a1:Ar .u8 8)(v6_1:Int)(o3_1:(List Int))(e:Env)(h:Heap):Prop:=
 ∃k4:Nat,h=⟨[(0,none),(0,none),(2,some (arc .u8 8 [])),(3,some (arc .u8 8 o3_1))],k4⟩∧e.length=27∧e.at 2=V.iptr (ceGDga a0)∧e.at 3=V.iptr (arc .u8 8 a1.val)∧e.at 4=V.ptr 2 2 0∧e.at 5=V.ptr 3 3 0∧e.at 6=V.int .i64 v6_1
def P198_1(a0:GDga)(a1:Ar .u8 8)(zo3_1:(List Int))(x:Ex)(e:Env)(h:Heap):Prop:=
 x= .normal∧∃k4:Nat,h=⟨[(0,none),(0,none),(2,some (arc .u8 8 [])),(3,some (arc .u8 8 zo3_1))],k4⟩∧e.length=27∧e.at 4=V.ptr 2 2 0∧e.at 5=V.ptr 3 3 0
theorem l198_1(a0:GDga)(a1:Ar .u8 8){lo:Int}{s:(List Int)}{t:(List Int)}(hF:forR lo a0.Size (F198_1_B a0 a1) (F198_1_D a0 a1) s=some t){e:Env}{h:Heap}(hI:I198_1 a0 a1 lo s e h):W A c198_1 e h (P198_1 a0 a1 t):=by
 show W A (.block 0 (.loop false b198_1)) e h _;rw[W_block];refine W_forR hF 4 (by obtain⟨_,rfl,_⟩:=hI; rfl) (I198_1 a0 a1) hI ?_ ?_
 ·rintro v6_1 o3_1 e h ⟨k4,rfl,h_3⟩ hlt hw o ho
  unfold F198_1_B at ho;have w6:ofCells none (List.drop 1 (ceGDga a0))=some (V.int .i64 a0.Size):=by first|exact ceGDga_Size_one (a:=_) rfl|(simp only[List.drop_drop]; exact ceGDga_Size_one (by omega))|(show ofCells none (List.drop 0 _)=_; exact ceGDga_Size_one rfl)
  have w7:ofCells none (ceGDga a0)=some (V.int .i64 a0.Prime):=by first|exact ceGDga_Prime_one (a:=_) rfl|(simp only[List.drop_drop]; exact ceGDga_Prime_one (by omega))|(show ofCells none (List.drop 0 _)=_; exact ceGDga_Prime_one rfl)
  obtain⟨n9,gn9,ho⟩:=bS ho;obtain⟨w10a,w10b,w10c,w10d⟩:=ixI_w gn9;have w11:List.take 8 (List.drop (n9*8) (List.drop 18 (ceGDga a0)))=arc .u8 8 (arP a0.Diff.val (n9*8) 8):=by first|exact ceGDga_Diff_part (i:=n9*8) (m:=8) (by omega) (by omega)|(simp only[List.drop_drop]; exact ceGDga_Diff_part (i:=n9*8) (m:=8) (by omega) (by omega))|(show List.take _ (List.drop 0 _)=_; exact ceGDga_Diff_part (i:=n9*8) (m:=8) (by omega) (by omega))
  have w11l:8≤List.length (List.drop (n9*8) (List.drop 18 (ceGDga a0))):=by simp only[List.length_drop,arc_len,ceGDga_len]; omega
  have w12:ofCells none (List.drop n9 (arc .u8 8 a1.val))=some (V.int .u8 (a1.val.getD n9 0)):=by first|exact arc_one' (i:=n9) (by omega) (by omega)|(simp only[List.drop_drop]; exact arc_one' (i:=n9) (by omega) (by omega))|(show ofCells none (List.drop 0 _)=_; exact arc_one' (i:=n9) (by omega) (by omega))
  obtain⟨x13,gx13,ho⟩:=bS ho;have wx13:=chk_w gx13;obtain⟨x14,gx14,ho⟩:=bS ho;have w15:ans A 105 [V.int .i64 a0.Prime,V.agg (arc .u8 8 o3_1),V.agg (arc .u8 8 (arP a0.Diff.val (n9*8) 8)),V.int .i64 x13]=some (V.agg (arc .u8 8 x14.val)):=s105 a0.Prime ⟨o3_1⟩ ⟨(arP a0.Diff.val (n9*8) 8)⟩ x13 gx14;have w17:List.drop 8 (arc .u8 8 o3_1)=[]:=List.drop_eq_nil_of_le (by rw[arc_len]; exact Nat.le_refl _);cases ho;simp only[simprocAttr, -Int.reduceNatCast',R0,b198_1,h_3,eq_true hlt,hw,w6,w7,w10a,w10b,w10c,w11,eq_true w11l,w12,wx13,w15,w17,List.append_nil];refine ai rfl (ei _ (ai rfl ?_));simp only[simprocAttr, -Int.reduceNatCast',R0,h_3,eq_true hlt,hw,w6,w7,w10a,w10b,w10c,w11,eq_true w11l,w12,wx13,w15,w17,List.append_nil]
 ·rintro v6_1 o3_1 e h ⟨k4,rfl,h_3⟩ hge t1 ho
  unfold F198_1_D at ho;have w18:ofCells none (List.drop 1 (ceGDga a0))=some (V.int .i64 a0.Size):=by first|exact ceGDga_Size_one (a:=_) rfl|(simp only[List.drop_drop]; exact ceGDga_Size_one (by omega))|(show ofCells none (List.drop 0 _)=_; exact ceGDga_Size_one rfl)
  cases ho;simp only[simprocAttr, -Int.reduceNatCast',R0,b198_1,h_3,eq_false hge,w18];intro ht; subst ht;refine ai rfl (ei _ (ai rfl ?_));simp only[simprocAttr, -Int.reduceNatCast',R0,h_3,eq_false hge,w18]
theorem s198(a0:GDga)(a1:Ar .u8 8){r:Ar .u8 8}(hF:F198 a0 a1=some r):ans A 198 [V.agg (ceGDga a0),V.agg (arc .u8 8 a1.val)]=some (Enc.enc r):=by
 refine ans_of (f:=p198) rfl rfl rfl fun e hl he=>?_;have h0_0:e.at 0=V.agg (ceGDga a0):=he 0 _ rfl;have h1_0:e.at 1=V.agg (arc .u8 8 a1.val):=he 1 _ rfl;have hl_0:e.length=27:=hl;clear he hl;show W A b198 e ⟨[],0⟩ _;unfold F198 at hF;have w2:List.drop 8 (arc .u8 8 [])=[]:=List.drop_eq_nil_of_le (by rw[arc_len]; exact Nat.le_refl _);obtain⟨zo3_1,gt19,hF⟩:=bS hF;simp only[simprocAttr,R0,b198,hl_0,h0_0,h1_0,(show [V.int .u8 0,V.int .u8 0,V.int .u8 0,V.int .u8 0,V.int .u8 0,V.int .u8 0,V.int .u8 0,V.int .u8 0]=arc .u8 8 [] from rfl),w2,List.append_nil];refine W.mono (l198_1 a0 a1 gt19 (ei _ (ai rfl ?_))) ?_
 ·simp only[simprocAttr,R0,hl_0,h0_0,h1_0,(show [V.int .u8 0,V.int .u8 0,V.int .u8 0,V.int .u8 0,V.int .u8 0,V.int .u8 0,V.int .u8 0,V.int .u8 0]=arc .u8 8 [] from rfl),w2,List.append_nil]
 rintro _ e _ ⟨rfl,k4,rfl,h_5⟩;have w22:List.drop 8 (arc .u8 8 [])=[]:=List.drop_eq_nil_of_le (by rw[arc_len]; exact Nat.le_refl _);cases hF;simp only[simprocAttr,R0,h_5,w22,List.append_nil];exact fin_ret (by simp only[simprocAttr,R0,fn_out,p198,Rs.ev,take_len_self,h_5,w22,List.append_nil])
def F199_2_B(a0:GDga)(a1:Ar .u8 8)(a2:Ar .u8 8)(v8_1:Int)(v9_2:Int)(o4_2:(List Int)):Option (((List Int))⊕((List Int))):=
 (ixI 8 v8_1).bind fun n11=>
if(a1.val.getD n11 0)=0 then
 some (.inl o4_2)
else
 (ixI 8 v9_2).bind fun n15=>
 if(a2.val.getD n15 0)=0 then
  some (.inl o4_2)
 else
  (chk (a1.val.getD n11 0)).bind fun x23=>
  (chk (a2.val.getD n15 0)).bind fun x25=>
  (chk (x23*x25)).bind fun x26=>
  (F105 a0.Prime ⟨o4_2⟩ ⟨(arP a0.Table.val (n11*64+n15*8) 8)⟩ x26).bind fun x27=>
  some (.inl x27.val)
def F199_2_D(a0:GDga)(a1:Ar .u8 8)(a2:Ar .u8 8)(v8_1:Int)(v9_2:Int)(o4_2:(List Int)):Option ((List Int)):=
 some o4_2
def F199_1_B(a0:GDga)(a1:Ar .u8 8)(a2:Ar .u8 8)(v8_1:Int)(o4_1:(List Int)):Option (((List Int))⊕((List Int))):=
 (forR 0 a0.Size (F199_2_B a0 a1 a2 v8_1) (F199_2_D a0 a1 a2 v8_1) o4_1).bind fun zo4_2=>
some (.inl zo4_2)
def F199_1_D(a0:GDga)(a1:Ar .u8 8)(a2:Ar .u8 8)(v8_1:Int)(o4_1:(List Int)):Option ((List Int)):=
 some o4_1
def F199(a0:GDga)(a1:Ar .u8 8)(a2:Ar .u8 8):Option (Ar .u8 8):=
 (forR 0 a0.Size (F199_1_B a0 a1 a2) (F199_1_D a0 a1 a2) ([]:(List Int))).bind fun zo4_1=>
 some ⟨zo4_1⟩
def I199_2(a0:GDga)(a1:Ar .u8 8)(a2:Ar .u8 8)(v8_1:Int)(v9_2:Int)(o4_2:(List Int))(e:Env)(h:Heap):Prop:=
 ∃k8:Nat,h=⟨[(0,none),(0,none),(0,none),(3,some (arc .u8 8 [])),(4,some (arc .u8 8 o4_2))],k8⟩∧e.length=53∧e.at 3=V.iptr (ceGDga a0)∧e.at 4=V.iptr (arc .u8 8 a1.val)∧e.at 5=V.iptr (arc .u8 8 a2.val)∧e.at 6=V.ptr 3 3 0∧e.at 7=V.ptr 4 4 0∧e.at 8=V.int .i64 v8_1∧e.at 9=V.int .i64 v9_2
def P199_2(a0:GDga)(a1:Ar .u8 8)(a2:Ar .u8 8)(v8_1:Int)(zo4_2:(List Int))(x:Ex)(e:Env)(h:Heap):Prop:=
 x= .normal∧∃k8:Nat,h=⟨[(0,none),(0,none),(0,none),(3,some (arc .u8 8 [])),(4,some (arc .u8 8 zo4_2))],k8⟩∧e.length=53∧e.at 3=V.iptr (ceGDga a0)∧e.at 4=V.iptr (arc .u8 8 a1.val)∧e.at 5=V.iptr (arc .u8 8 a2.val)∧e.at 6=V.ptr 3 3 0∧e.at 7=V.ptr 4 4 0∧e.at 8=V.int .i64 v8_1
theorem l199_2(a0:GDga)(a1:Ar .u8 8)(a2:Ar .u8 8)(v8_1:Int){lo:Int}{s:(List Int)}{t:(List Int)}(hF:forR lo a0.Size (F199_2_B a0 a1 a2 v8_1) (F199_2_D a0 a1 a2 v8_1) s=some t){e:Env}{h:Heap}(hI:I199_2 a0 a1 a2 v8_1 lo s e h):W A c199_2 e h (P199_2 a0 a1 a2 v8_1 t):=by
 show W A (.block 2 (.loop false b199_2)) e h _;rw[W_block];refine W_forR hF 5 (by obtain⟨_,rfl,_⟩:=hI; rfl) (I199_2 a0 a1 a2 v8_1) hI ?_ ?_
 ·rintro v9_2 o4_2 e h ⟨k8,rfl,h_7⟩ hlt hw o ho
  unfold F199_2_B at ho;have w10:ofCells none (List.drop 1 (ceGDga a0))=some (V.int .i64 a0.Size):=by first|exact ceGDga_Size_one (a:=_) rfl|(simp only[List.drop_drop]; exact ceGDga_Size_one (by omega))|(show ofCells none (List.drop 0 _)=_; exact ceGDga_Size_one rfl)
  obtain⟨n11,gn11,ho⟩:=bS ho;obtain⟨w12a,w12b,w12c,w12d⟩:=ixI_w gn11;have w13:ofCells none (List.drop n11 (arc .u8 8 a1.val))=some (V.int .u8 (a1.val.getD n11 0)):=by first|exact arc_one' (i:=n11) (by omega) (by omega)|(simp only[List.drop_drop]; exact arc_one' (i:=n11) (by omega) (by omega))|(show ofCells none (List.drop 0 _)=_; exact arc_one' (i:=n11) (by omega) (by omega))
  by_cases c14:(a1.val.getD n11 0)=0
  ·rw[if_pos c14]at ho
   cases ho;simp only[simprocAttr, -Int.reduceNatCast',R0,b199_2,h_7,eq_true hlt,hw,w10,w12a,w12b,w12c,w13,eq_true c14];refine ai rfl (ei _ (ai rfl ?_));simp only[simprocAttr, -Int.reduceNatCast',R0,h_7,eq_true hlt,hw,w10,w12a,w12b,w12c,w13,eq_true c14]
  ·rw[if_neg c14]at ho
   obtain⟨n15,gn15,ho⟩:=bS ho;obtain⟨w16a,w16b,w16c,w16d⟩:=ixI_w gn15;have w17:ofCells none (List.drop n15 (arc .u8 8 a2.val))=some (V.int .u8 (a2.val.getD n15 0)):=by first|exact arc_one' (i:=n15) (by omega) (by omega)|(simp only[List.drop_drop]; exact arc_one' (i:=n15) (by omega) (by omega))|(show ofCells none (List.drop 0 _)=_; exact arc_one' (i:=n15) (by omega) (by omega))
   by_cases c18:(a2.val.getD n15 0)=0
   ·rw[if_pos c18]at ho
    cases ho;simp only[simprocAttr, -Int.reduceNatCast',R0,b199_2,h_7,eq_true hlt,hw,w10,w12a,w12b,w12c,w13,eq_false c14,w16a,w16b,w16c,w17,eq_true c18];refine ai rfl (ei _ (ai rfl ?_));simp only[simprocAttr, -Int.reduceNatCast',R0,h_7,eq_true hlt,hw,w10,w12a,w12b,w12c,w13,eq_false c14,w16a,w16b,w16c,w17,eq_true c18]
   ·rw[if_neg c18]at ho
    have w19:ofCells none (ceGDga a0)=some (V.int .i64 a0.Prime):=by first|exact ceGDga_Prime_one (a:=_) rfl|(simp only[List.drop_drop]; exact ceGDga_Prime_one (by omega))|(show ofCells none (List.drop 0 _)=_; exact ceGDga_Prime_one rfl)
    have w21:List.take 8 (List.drop (n15*8) (List.drop (n11*64) (List.drop 82 (ceGDga a0))))=arc .u8 8 (arP a0.Table.val (n11*64+n15*8) 8):=by first|exact ceGDga_Table_part (i:=n11*64+n15*8) (m:=8) (by omega) (by omega)|(simp only[List.drop_drop]; exact ceGDga_Table_part (i:=n11*64+n15*8) (m:=8) (by omega) (by omega))|(show List.take _ (List.drop 0 _)=_; exact ceGDga_Table_part (i:=n11*64+n15*8) (m:=8) (by omega) (by omega))
    have w21l:8≤List.length (List.drop (n15*8) (List.drop (n11*64) (List.drop 82 (ceGDga a0)))):=by simp only[List.length_drop,arc_len,ceGDga_len]; omega
    have w22:ofCells none (List.drop n11 (arc .u8 8 a1.val))=some (V.int .u8 (a1.val.getD n11 0)):=by first|exact arc_one' (i:=n11) (by omega) (by omega)|(simp only[List.drop_drop]; exact arc_one' (i:=n11) (by omega) (by omega))|(show ofCells none (List.drop 0 _)=_; exact arc_one' (i:=n11) (by omega) (by omega))
    obtain⟨x23,gx23,ho⟩:=bS ho;have wx23:=chk_w gx23;have w24:ofCells none (List.drop n15 (arc .u8 8 a2.val))=some (V.int .u8 (a2.val.getD n15 0)):=by first|exact arc_one' (i:=n15) (by omega) (by omega)|(simp only[List.drop_drop]; exact arc_one' (i:=n15) (by omega) (by omega))|(show ofCells none (List.drop 0 _)=_; exact arc_one' (i:=n15) (by omega) (by omega))
    obtain⟨x25,gx25,ho⟩:=bS ho;have wx25:=chk_w gx25;obtain⟨x26,gx26,ho⟩:=bS ho;have wx26:=chk_w gx26;obtain⟨x27,gx27,ho⟩:=bS ho;have w28:ans A 105 [V.int .i64 a0.Prime,V.agg (arc .u8 8 o4_2),V.agg (arc .u8 8 (arP a0.Table.val (n11*64+n15*8) 8)),V.int .i64 x26]=some (V.agg (arc .u8 8 x27.val)):=s105 a0.Prime ⟨o4_2⟩ ⟨(arP a0.Table.val (n11*64+n15*8) 8)⟩ x26 gx27;have w30:List.drop 8 (arc .u8 8 o4_2)=[]:=List.drop_eq_nil_of_le (by rw[arc_len]; exact Nat.le_refl _);cases ho;simp only[simprocAttr, -Int.reduceNatCast',R0,b199_2,h_7,eq_true hlt,hw,w10,w12a,w12b,w12c,w13,eq_false c14,w16a,w16b,w16c,w17,eq_false c18,w19,w21,eq_true w21l,w22,wx23,w24,wx25,wx26,w28,w30,List.append_nil];refine ai rfl (ei _ (ai rfl ?_));simp only[simprocAttr, -Int.reduceNatCast',R0,h_7,eq_true hlt,hw,w10,w12a,w12b,w12c,w13,eq_false c14,w16a,w16b,w16c,w17,eq_false c18,w19,w21,eq_true w21l,w22,wx23,w24,wx25,wx26,w28,w30,List.append_nil]
 ·rintro v9_2 o4_2 e h ⟨k8,rfl,h_7⟩ hge t1 ho
  unfold F199_2_D at ho;have w31:ofCells none (List.drop 1 (ceGDga a0))=some (V.int .i64 a0.Size):=by first|exact ceGDga_Size_one (a:=_) rfl|(simp only[List.drop_drop]; exact ceGDga_Size_one (by omega))|(show ofCells none (List.drop 0 _)=_; exact ceGDga_Size_one rfl)
  cases ho;simp only[simprocAttr, -Int.reduceNatCast',R0,b199_2,h_7,eq_false hge,w31];intro ht; subst ht;refine ai rfl (ei _ (ai rfl ?_));simp only[simprocAttr, -Int.reduceNatCast',R0,h_7,eq_false hge,w31]
def I199_1(a0:GDga)(a1:Ar .u8 8)(a2:Ar .u8 8)(v8_1:Int)(o4_1:(List Int))(e:Env)(h:Heap):Prop:=
 ∃k4:Nat,h=⟨[(0,none),(0,none),(0,none),(3,some (arc .u8 8 [])),(4,some (arc .u8 8 o4_1))],k4⟩∧e.length=53∧e.at 3=V.iptr (ceGDga a0)∧e.at 4=V.iptr (arc .u8 8 a1.val)∧e.at 5=V.iptr (arc .u8 8 a2.val)∧e.at 6=V.ptr 3 3 0∧e.at 7=V.ptr 4 4 0∧e.at 8=V.int .i64 v8_1
def P199_1(a0:GDga)(a1:Ar .u8 8)(a2:Ar .u8 8)(zo4_1:(List Int))(x:Ex)(e:Env)(h:Heap):Prop:=
 x= .normal∧∃k4:Nat,h=⟨[(0,none),(0,none),(0,none),(3,some (arc .u8 8 [])),(4,some (arc .u8 8 zo4_1))],k4⟩∧e.length=53∧e.at 6=V.ptr 3 3 0∧e.at 7=V.ptr 4 4 0
theorem l199_1(a0:GDga)(a1:Ar .u8 8)(a2:Ar .u8 8){lo:Int}{s:(List Int)}{t:(List Int)}(hF:forR lo a0.Size (F199_1_B a0 a1 a2) (F199_1_D a0 a1 a2) s=some t){e:Env}{h:Heap}(hI:I199_1 a0 a1 a2 lo s e h):W A c199_1 e h (P199_1 a0 a1 a2 t):=by
 show W A (.block 0 (.loop false b199_1)) e h _;rw[W_block];refine W_forR hF 5 (by obtain⟨_,rfl,_⟩:=hI; rfl) (I199_1 a0 a1 a2) hI ?_ ?_
 ·rintro v8_1 o4_1 e h ⟨k4,rfl,h_3⟩ hlt hw o ho
  unfold F199_1_B at ho;have w6:ofCells none (List.drop 1 (ceGDga a0))=some (V.int .i64 a0.Size):=by first|exact ceGDga_Size_one (a:=_) rfl|(simp only[List.drop_drop]; exact ceGDga_Size_one (by omega))|(show ofCells none (List.drop 0 _)=_; exact ceGDga_Size_one rfl)
  obtain⟨zo4_2,gt32,ho⟩:=bS ho;simp only[simprocAttr,R0,b199_1,h_3,eq_true hlt,hw,w6];refine W.mono (l199_2 a0 a1 a2 v8_1 gt32 (ei _ (ai rfl ?_))) ?_
  ·simp only[simprocAttr,R0,h_3,eq_true hlt,hw,w6]
  rintro _ e _ ⟨rfl,k8,rfl,h_9⟩;cases ho;simp only[simprocAttr,R0,h_9,eq_true hlt,hw];refine ai rfl (ei _ (ai rfl ?_));simp only[simprocAttr,R0,h_9,eq_true hlt,hw]
 ·rintro v8_1 o4_1 e h ⟨k4,rfl,h_3⟩ hge t1 ho
  unfold F199_1_D at ho;have w33:ofCells none (List.drop 1 (ceGDga a0))=some (V.int .i64 a0.Size):=by first|exact ceGDga_Size_one (a:=_) rfl|(simp only[List.drop_drop]; exact ceGDga_Size_one (by omega))|(show ofCells none (List.drop 0 _)=_; exact ceGDga_Size_one rfl)
  cases ho;simp only[simprocAttr,R0,b199_1,h_3,eq_false hge,w33];intro ht; subst ht;refine ai rfl (ei _ (ai rfl ?_));simp only[simprocAttr,R0,h_3,eq_false hge,w33]
theorem s199(a0:GDga)(a1:Ar .u8 8)(a2:Ar .u8 8){r:Ar .u8 8}(hF:F199 a0 a1 a2=some r):ans A 199 [V.agg (ceGDga a0),V.agg (arc .u8 8 a1.val),V.agg (arc .u8 8 a2.val)]=some (Enc.enc r):=by
 refine ans_of (f:=p199) rfl rfl rfl fun e hl he=>?_;have h0_0:e.at 0=V.agg (ceGDga a0):=he 0 _ rfl;have h1_0:e.at 1=V.agg (arc .u8 8 a1.val):=he 1 _ rfl;have h2_0:e.at 2=V.agg (arc .u8 8 a2.val):=he 2 _ rfl;have hl_0:e.length=53:=hl;clear he hl;show W A b199 e ⟨[],0⟩ _;unfold F199 at hF;have w2:List.drop 8 (arc .u8 8 [])=[]:=List.drop_eq_nil_of_le (by rw[arc_len]; exact Nat.le_refl _);obtain⟨zo4_1,gt34,hF⟩:=bS hF;simp only[simprocAttr,R0,b199,hl_0,h0_0,h1_0,h2_0,(show [V.int .u8 0,V.int .u8 0,V.int .u8 0,V.int .u8 0,V.int .u8 0,V.int .u8 0,V.int .u8 0,V.int .u8 0]=arc .u8 8 [] from rfl),w2,List.append_nil];refine W.mono (l199_1 a0 a1 a2 gt34 (ei _ (ai rfl ?_))) ?_
 ·simp only[simprocAttr,R0,hl_0,h0_0,h1_0,h2_0,(show [V.int .u8 0,V.int .u8 0,V.int .u8 0,V.int .u8 0,V.int .u8 0,V.int .u8 0,V.int .u8 0,V.int .u8 0]=arc .u8 8 [] from rfl),w2,List.append_nil]
 rintro _ e _ ⟨rfl,k4,rfl,h_5⟩;have w37:List.drop 8 (arc .u8 8 [])=[]:=List.drop_eq_nil_of_le (by rw[arc_len]; exact Nat.le_refl _);cases hF;simp only[simprocAttr,R0,h_5,w37,List.append_nil];exact fin_ret (by simp only[simprocAttr,R0,fn_out,p199,Rs.ev,take_len_self,h_5,w37,List.append_nil])
def F180_3_B(a0:GDga)(v3_1:Int)(x7:Ar .u8 8)(x15:Int)(v6_2:Int)(x40:Ar .u8 8)(v8_3:Int)(s:Unit):Option ((Unit)⊕((Unit)⊕Bool)):=
 (ixI 8 v3_1).bind fun n63=>
(ixI 8 v6_2).bind fun n65=>
(F104 v8_3).bind fun x68=>
(F199 a0 ⟨(arP a0.Table.val (n63*64+n65*8) 8)⟩ x68).bind fun x70=>
(ixI 8 v8_3).bind fun n73=>
(F199 a0 x7 ⟨(arP a0.Table.val (n65*64+n73*8) 8)⟩).bind fun x76=>
(arE .u8 8 x70.val x76.val).bind fun x78=>
if x78=true then
 some (.inl ())
else
 some (.inr (.inr false))
def F180_3_D(a0:GDga)(v3_1:Int)(x7:Ar .u8 8)(x15:Int)(v6_2:Int)(x40:Ar .u8 8)(v8_3:Int)(s:Unit):Option ((Unit)⊕Bool):=
 some (.inl ())
def F180_2_B(a0:GDga)(v3_1:Int)(x7:Ar .u8 8)(x15:Int)(v6_2:Int)(s:Unit):Option ((Unit)⊕((Unit)⊕Bool)):=
 (ixI 8 v3_1).bind fun n35=>
(F104 v6_2).bind fun x38=>
(F199 a0 ⟨(arP a0.Diff.val (n35*8) 8)⟩ x38).bind fun x40=>
(ixI 8 v6_2).bind fun n44=>
(F198 a0 ⟨(arP a0.Table.val (n35*64+n44*8) 8)⟩).bind fun x47=>
(F199 a0 x7 ⟨(arP a0.Diff.val (n44*8) 8)⟩).bind fun x53=>
(F105 a0.Prime x40 x53 x15).bind fun x55=>
(arE .u8 8 x47.val x55.val).bind fun x57=>
if x57=true then
 (forR 0 a0.Size (F180_3_B a0 v3_1 x7 x15 v6_2 x40) (F180_3_D a0 v3_1 x7 x15 v6_2 x40) ()).bind fun t81=> match t81 with
  | .inl _=>
   some (.inl ())
  | .inr r82=> some (.inr (.inr r82))
else
 some (.inr (.inr false))
def F180_2_D(a0:GDga)(v3_1:Int)(x7:Ar .u8 8)(x15:Int)(v6_2:Int)(s:Unit):Option ((Unit)⊕Bool):=
 some (.inl ())
def F180_1_B(a0:GDga)(v3_1:Int)(s:Unit):Option ((Unit)⊕((Unit)⊕Bool)):=
 (F104 v3_1).bind fun x7=>
(ixI 8 v3_1).bind fun n9=>
(remI (a0.Degrees.val.getD n9 0) 2).bind fun x12=>
(chk (2*x12)).bind fun x14=>
(chk (1 - x14)).bind fun x15=>
(arE .u8 8 (arP a0.Table.val (n9*8) 8) x7.val).bind fun x20=>
if x20=true then
 (arE .u8 8 (arP a0.Table.val (n9*64) 8) x7.val).bind fun x24=>
 if x24=true then
  (F198 a0 ⟨(arP a0.Diff.val (n9*8) 8)⟩).bind fun x27=>
  (arE .u8 8 x27.val []).bind fun x29=>
  if x29=true then
   (forR 0 a0.Size (F180_2_B a0 v3_1 x7 x15) (F180_2_D a0 v3_1 x7 x15) ()).bind fun t84=> match t84 with
    | .inl _=>
     some (.inl ())
    | .inr r85=> some (.inr (.inr r85))
  else
   some (.inr (.inr false))
 else
  some (.inr (.inr false))
else
 some (.inr (.inr false))
def F180_1_D(a0:GDga)(v3_1:Int)(s:Unit):Option ((Unit)⊕Bool):=
 some (.inl ())
def F180(a0:GDga):Option Bool:=
 (F197 a0).bind fun x1=>
 if x1=true then
  (forR 0 a0.Size (F180_1_B a0) (F180_1_D a0) ()).bind fun t87=> match t87 with
   | .inl _=>
    some true
   | .inr r88=> some r88
 else
  some false
def I180_3(a0:GDga)(v3_1:Int)(x7:Ar .u8 8)(x15:Int)(v6_2:Int)(x40:Ar .u8 8)(k4 k32:Nat)(v8_3:Int)(s:Unit)(e:Env)(h:Heap):Prop:=
 ∃k60:Nat,h=⟨[(0,none),(k4,some (arc .u8 8 x7.val)),(k32,some (arc .u8 8 x40.val))],k60⟩∧e.length=114∧e.at 1=V.iptr (ceGDga a0)∧e.at 3=V.int .i64 v3_1∧e.at 4=V.ptr 1 k4 0∧e.at 5=V.int .i64 x15∧e.at 6=V.int .i64 v6_2∧e.at 8=V.int .i64 v8_3
def P180_3(a0:GDga)(v3_1:Int)(x7:Ar .u8 8)(x15:Int)(v6_2:Int)(x40:Ar .u8 8)(k4 k32:Nat)(t:(Unit)⊕Bool)(x:Ex)(e:Env)(h:Heap):Prop:=
 match t with
 | .inl _=> x= .normal∧∃k60:Nat,h=⟨[(0,none),(k4,some (arc .u8 8 x7.val)),(k32,some (arc .u8 8 x40.val))],k60⟩∧e.length=114∧e.at 1=V.iptr (ceGDga a0)∧e.at 3=V.int .i64 v3_1∧e.at 4=V.ptr 1 k4 0∧e.at 5=V.int .i64 x15∧e.at 6=V.int .i64 v6_2
 | .inr r=> x= .ret∧Fin p180 (Enc.enc r) .ret e h
theorem l180_3(a0:GDga)(v3_1:Int)(x7:Ar .u8 8)(x15:Int)(v6_2:Int)(x40:Ar .u8 8)(k4 k32:Nat){lo:Int}{s:Unit}{t:(Unit)⊕Bool}(hF:forR lo a0.Size (F180_3_B a0 v3_1 x7 x15 v6_2 x40) (F180_3_D a0 v3_1 x7 x15 v6_2 x40) s=some t){e:Env}{h:Heap}(hI:I180_3 a0 v3_1 x7 x15 v6_2 x40 k4 k32 lo s e h):W A c180_3 e h (P180_3 a0 v3_1 x7 x15 v6_2 x40 k4 k32 t):=by
 show W A (.block 4 (.loop false b180_3)) e h _;rw[W_block];refine W_forR hF 3 (by obtain⟨_,rfl,_⟩:=hI; rfl) (I180_3 a0 v3_1 x7 x15 v6_2 x40 k4 k32) hI ?_ ?_
 ·rintro v8_3 _ e h ⟨k60,rfl,h_59⟩ hlt hw o ho
  unfold F180_3_B at ho;have w62:ofCells none (List.drop 1 (ceGDga a0))=some (V.int .i64 a0.Size):=by first|exact ceGDga_Size_one (a:=_) rfl|(simp only[List.drop_drop]; exact ceGDga_Size_one (by omega))|(show ofCells none (List.drop 0 _)=_; exact ceGDga_Size_one rfl)
  obtain⟨n63,gn63,ho⟩:=bS ho;obtain⟨w64a,w64b,w64c,w64d⟩:=ixI_w gn63;obtain⟨n65,gn65,ho⟩:=bS ho;obtain⟨w66a,w66b,w66c,w66d⟩:=ixI_w gn65;have w67:List.take 8 (List.drop (n65*8) (List.drop (n63*64) (List.drop 82 (ceGDga a0))))=arc .u8 8 (arP a0.Table.val (n63*64+n65*8) 8):=by first|exact ceGDga_Table_part (i:=n63*64+n65*8) (m:=8) (by omega) (by omega)|(simp only[List.drop_drop]; exact ceGDga_Table_part (i:=n63*64+n65*8) (m:=8) (by omega) (by omega))|(show List.take _ (List.drop 0 _)=_; exact ceGDga_Table_part (i:=n63*64+n65*8) (m:=8) (by omega) (by omega))
  have w67l:8≤List.length (List.drop (n65*8) (List.drop (n63*64) (List.drop 82 (ceGDga a0)))):=by simp only[List.length_drop,arc_len,ceGDga_len]; omega
  obtain⟨x68,gx68,ho⟩:=bS ho;have w69:ans A 104 [V.int .i64 v8_3]=some (V.agg (arc .u8 8 x68.val)):=s104 v8_3 gx68;obtain⟨x70,gx70,ho⟩:=bS ho;have w71:ans A 199 [V.agg (ceGDga a0),V.agg (arc .u8 8 (arP a0.Table.val (n63*64+n65*8) 8)),V.agg (arc .u8 8 x68.val)]=some (V.agg (arc .u8 8 x70.val)):=s199 a0 ⟨(arP a0.Table.val (n63*64+n65*8) 8)⟩ x68 gx70;obtain⟨n73,gn73,ho⟩:=bS ho;obtain⟨w74a,w74b,w74c,w74d⟩:=ixI_w gn73;have w75:List.take 8 (List.drop (n73*8) (List.drop (n65*64) (List.drop 82 (ceGDga a0))))=arc .u8 8 (arP a0.Table.val (n65*64+n73*8) 8):=by first|exact ceGDga_Table_part (i:=n65*64+n73*8) (m:=8) (by omega) (by omega)|(simp only[List.drop_drop]; exact ceGDga_Table_part (i:=n65*64+n73*8) (m:=8) (by omega) (by omega))|(show List.take _ (List.drop 0 _)=_; exact ceGDga_Table_part (i:=n65*64+n73*8) (m:=8) (by omega) (by omega))
  have w75l:8≤List.length (List.drop (n73*8) (List.drop (n65*64) (List.drop 82 (ceGDga a0)))):=by simp only[List.length_drop,arc_len,ceGDga_len]; omega
  obtain⟨x76,gx76,ho⟩:=bS ho;have w77:ans A 199 [V.agg (ceGDga a0),V.agg (arc .u8 8 x7.val),V.agg (arc .u8 8 (arP a0.Table.val (n65*64+n73*8) 8))]=some (V.agg (arc .u8 8 x76.val)):=s199 a0 x7 ⟨(arP a0.Table.val (n65*64+n73*8) 8)⟩ gx76;obtain⟨x78,gx78,ho⟩:=bS ho;have w79:eqSV true 12 (Lay.arr 8 8 1 (Lay.int Go.IntKind.u8)) (V.agg (arc .u8 8 x70.val)) (V.agg (arc .u8 8 x76.val))=some (V.bool (!x78)):=eqS_arc1 gx78;cases x78 with
  |true=>
   rw[if_pos rfl]at ho;cases ho;simp only[simprocAttr, -Int.reduceNatCast',R0,b180_3,h_59,eq_true hlt,hw,w62,w64a,w64b,w64c,w66a,w66b,w66c,w67,eq_true w67l,w69,w71,w74a,w74b,w74c,w75,eq_true w75l,w77,w79];refine ai rfl (ei _ (ai rfl ?_));simp only[simprocAttr, -Int.reduceNatCast',R0,h_59,eq_true hlt,hw,w62,w64a,w64b,w64c,w66a,w66b,w66c,w67,eq_true w67l,w69,w71,w74a,w74b,w74c,w75,eq_true w75l,w77,w79]
  |false=>
   rw[if_neg Bool.false_ne_true]at ho;cases ho;simp only[simprocAttr, -Int.reduceNatCast',R0,b180_3,h_59,eq_true hlt,hw,w62,w64a,w64b,w64c,w66a,w66b,w66c,w67,eq_true w67l,w69,w71,w74a,w74b,w74c,w75,eq_true w75l,w77,w79];intro ht; subst ht;simp only[simprocAttr, -Int.reduceNatCast',RR,RB];exact ai rfl (fin_ret (by simp only[simprocAttr, -Int.reduceNatCast',R0,fn_out,p180,Rs.ev,take_len_self,h_59,eq_true hlt,hw,w62,w64a,w64b,w64c,w66a,w66b,w66c,w67,eq_true w67l,w69,w71,w74a,w74b,w74c,w75,eq_true w75l,w77,w79]))
 ·rintro v8_3 _ e h ⟨k60,rfl,h_59⟩ hge t1 ho
  unfold F180_3_D at ho;have w80:ofCells none (List.drop 1 (ceGDga a0))=some (V.int .i64 a0.Size):=by first|exact ceGDga_Size_one (a:=_) rfl|(simp only[List.drop_drop]; exact ceGDga_Size_one (by omega))|(show ofCells none (List.drop 0 _)=_; exact ceGDga_Size_one rfl)
  cases ho;simp only[simprocAttr, -Int.reduceNatCast',R0,b180_3,h_59,eq_false hge,w80];intro ht; subst ht;refine ai rfl (ei _ (ai rfl ?_));simp only[simprocAttr, -Int.reduceNatCast',R0,h_59,eq_false hge,w80]
def I180_2(a0:GDga)(v3_1:Int)(x7:Ar .u8 8)(x15:Int)(k4:Nat)(v6_2:Int)(s:Unit)(e:Env)(h:Heap):Prop:=
 ∃k32:Nat,h=⟨[(0,none),(k4,some (arc .u8 8 x7.val))],k32⟩∧e.length=114∧e.at 1=V.iptr (ceGDga a0)∧e.at 3=V.int .i64 v3_1∧e.at 4=V.ptr 1 k4 0∧e.at 5=V.int .i64 x15∧e.at 6=V.int .i64 v6_2
def P180_2(a0:GDga)(v3_1:Int)(x7:Ar .u8 8)(x15:Int)(k4:Nat)(t:(Unit)⊕Bool)(x:Ex)(e:Env)(h:Heap):Prop:=
 match t with
 | .inl _=> x= .normal∧∃k32:Nat,h=⟨[(0,none),(k4,some (arc .u8 8 x7.val))],k32⟩∧e.length=114∧e.at 1=V.iptr (ceGDga a0)∧e.at 3=V.int .i64 v3_1
 | .inr r=> x= .ret∧Fin p180 (Enc.enc r) .ret e h
theorem l180_2(a0:GDga)(v3_1:Int)(x7:Ar .u8 8)(x15:Int)(k4:Nat){lo:Int}{s:Unit}{t:(Unit)⊕Bool}(hF:forR lo a0.Size (F180_2_B a0 v3_1 x7 x15) (F180_2_D a0 v3_1 x7 x15) s=some t){e:Env}{h:Heap}(hI:I180_2 a0 v3_1 x7 x15 k4 lo s e h):W A c180_2 e h (P180_2 a0 v3_1 x7 x15 k4 t):=by
 show W A (.block 2 (.loop false b180_2)) e h _;rw[W_block];refine W_forR hF 2 (by obtain⟨_,rfl,_⟩:=hI; rfl) (I180_2 a0 v3_1 x7 x15 k4) hI ?_ ?_
 ·rintro v6_2 _ e h ⟨k32,rfl,h_31⟩ hlt hw o ho
  unfold F180_2_B at ho;have w34:ofCells none (List.drop 1 (ceGDga a0))=some (V.int .i64 a0.Size):=by first|exact ceGDga_Size_one (a:=_) rfl|(simp only[List.drop_drop]; exact ceGDga_Size_one (by omega))|(show ofCells none (List.drop 0 _)=_; exact ceGDga_Size_one rfl)
  obtain⟨n35,gn35,ho⟩:=bS ho;obtain⟨w36a,w36b,w36c,w36d⟩:=ixI_w gn35;have w37:List.take 8 (List.drop (n35*8) (List.drop 18 (ceGDga a0)))=arc .u8 8 (arP a0.Diff.val (n35*8) 8):=by first|exact ceGDga_Diff_part (i:=n35*8) (m:=8) (by omega) (by omega)|(simp only[List.drop_drop]; exact ceGDga_Diff_part (i:=n35*8) (m:=8) (by omega) (by omega))|(show List.take _ (List.drop 0 _)=_; exact ceGDga_Diff_part (i:=n35*8) (m:=8) (by omega) (by omega))
  have w37l:8≤List.length (List.drop (n35*8) (List.drop 18 (ceGDga a0))):=by simp only[List.length_drop,arc_len,ceGDga_len]; omega
  obtain⟨x38,gx38,ho⟩:=bS ho;have w39:ans A 104 [V.int .i64 v6_2]=some (V.agg (arc .u8 8 x38.val)):=s104 v6_2 gx38;obtain⟨x40,gx40,ho⟩:=bS ho;have w41:ans A 199 [V.agg (ceGDga a0),V.agg (arc .u8 8 (arP a0.Diff.val (n35*8) 8)),V.agg (arc .u8 8 x38.val)]=some (V.agg (arc .u8 8 x40.val)):=s199 a0 ⟨(arP a0.Diff.val (n35*8) 8)⟩ x38 gx40;have w43:List.drop 8 (arc .u8 8 [])=[]:=List.drop_eq_nil_of_le (by rw[arc_len]; exact Nat.le_refl _);obtain⟨n44,gn44,ho⟩:=bS ho;obtain⟨w45a,w45b,w45c,w45d⟩:=ixI_w gn44;have w46:List.take 8 (List.drop (n44*8) (List.drop (n35*64) (List.drop 82 (ceGDga a0))))=arc .u8 8 (arP a0.Table.val (n35*64+n44*8) 8):=by first|exact ceGDga_Table_part (i:=n35*64+n44*8) (m:=8) (by omega) (by omega)|(simp only[List.drop_drop]; exact ceGDga_Table_part (i:=n35*64+n44*8) (m:=8) (by omega) (by omega))|(show List.take _ (List.drop 0 _)=_; exact ceGDga_Table_part (i:=n35*64+n44*8) (m:=8) (by omega) (by omega))
  have w46l:8≤List.length (List.drop (n44*8) (List.drop (n35*64) (List.drop 82 (ceGDga a0)))):=by simp only[List.length_drop,arc_len,ceGDga_len]; omega
  obtain⟨x47,gx47,ho⟩:=bS ho;have w48:ans A 198 [V.agg (ceGDga a0),V.agg (arc .u8 8 (arP a0.Table.val (n35*64+n44*8) 8))]=some (V.agg (arc .u8 8 x47.val)):=s198 a0 ⟨(arP a0.Table.val (n35*64+n44*8) 8)⟩ gx47;have w49:ofCells none (ceGDga a0)=some (V.int .i64 a0.Prime):=by first|exact ceGDga_Prime_one (a:=_) rfl|(simp only[List.drop_drop]; exact ceGDga_Prime_one (by omega))|(show ofCells none (List.drop 0 _)=_; exact ceGDga_Prime_one rfl)
  have w52:List.take 8 (List.drop (n44*8) (List.drop 18 (ceGDga a0)))=arc .u8 8 (arP a0.Diff.val (n44*8) 8):=by first|exact ceGDga_Diff_part (i:=n44*8) (m:=8) (by omega) (by omega)|(simp only[List.drop_drop]; exact ceGDga_Diff_part (i:=n44*8) (m:=8) (by omega) (by omega))|(show List.take _ (List.drop 0 _)=_; exact ceGDga_Diff_part (i:=n44*8) (m:=8) (by omega) (by omega))
  have w52l:8≤List.length (List.drop (n44*8) (List.drop 18 (ceGDga a0))):=by simp only[List.length_drop,arc_len,ceGDga_len]; omega
  obtain⟨x53,gx53,ho⟩:=bS ho;have w54:ans A 199 [V.agg (ceGDga a0),V.agg (arc .u8 8 x7.val),V.agg (arc .u8 8 (arP a0.Diff.val (n44*8) 8))]=some (V.agg (arc .u8 8 x53.val)):=s199 a0 x7 ⟨(arP a0.Diff.val (n44*8) 8)⟩ gx53;obtain⟨x55,gx55,ho⟩:=bS ho;have w56:ans A 105 [V.int .i64 a0.Prime,V.agg (arc .u8 8 x40.val),V.agg (arc .u8 8 x53.val),V.int .i64 x15]=some (V.agg (arc .u8 8 x55.val)):=s105 a0.Prime x40 x53 x15 gx55;obtain⟨x57,gx57,ho⟩:=bS ho;have w58:eqSV true 12 (Lay.arr 8 8 1 (Lay.int Go.IntKind.u8)) (V.agg (arc .u8 8 x47.val)) (V.agg (arc .u8 8 x55.val))=some (V.bool (!x57)):=eqS_arc1 gx57;cases x57 with
  |true=>
   rw[if_pos rfl]at ho;obtain⟨t81,gt81,ho⟩:=bS ho;rcases t81 with _|r82
   ·dsimp only at ho
    simp only[simprocAttr, -Int.reduceNatCast',R0,b180_2,h_31,eq_true hlt,hw,w34,w36a,w36b,w36c,w37,eq_true w37l,w39,w41,(show [V.int .u8 0,V.int .u8 0,V.int .u8 0,V.int .u8 0,V.int .u8 0,V.int .u8 0,V.int .u8 0,V.int .u8 0]=arc .u8 8 [] from rfl),w43,List.append_nil,w45a,w45b,w45c,w46,eq_true w46l,w48,w49,w52,eq_true w52l,w54,w56,w58];refine W.mono (l180_3 a0 v3_1 x7 x15 v6_2 x40 k4 k32 gt81 (ei _ (ai rfl ?_))) ?_
    ·simp only[simprocAttr, -Int.reduceNatCast',R0,h_31,eq_true hlt,hw,w34,w36a,w36b,w36c,w37,eq_true w37l,w39,w41,(show [V.int .u8 0,V.int .u8 0,V.int .u8 0,V.int .u8 0,V.int .u8 0,V.int .u8 0,V.int .u8 0,V.int .u8 0]=arc .u8 8 [] from rfl),w43,List.append_nil,w45a,w45b,w45c,w46,eq_true w46l,w48,w49,w52,eq_true w52l,w54,w56,w58]
    rintro _ e _ ⟨rfl,k60,rfl,h_61⟩;cases ho;simp only[simprocAttr, -Int.reduceNatCast',R0,h_61,eq_true hlt,hw,eq_true w37l,eq_true w46l,eq_true w52l];refine ai rfl (ei _ (ai rfl ?_));simp only[simprocAttr, -Int.reduceNatCast',R0,h_61,eq_true hlt,hw,eq_true w37l,eq_true w46l,eq_true w52l]
   ·dsimp only at ho
    cases ho;simp only[simprocAttr, -Int.reduceNatCast',R0,b180_2,h_31,eq_true hlt,hw,w34,w36a,w36b,w36c,w37,eq_true w37l,w39,w41,(show [V.int .u8 0,V.int .u8 0,V.int .u8 0,V.int .u8 0,V.int .u8 0,V.int .u8 0,V.int .u8 0,V.int .u8 0]=arc .u8 8 [] from rfl),w43,List.append_nil,w45a,w45b,w45c,w46,eq_true w46l,w48,w49,w52,eq_true w52l,w54,w56,w58];refine W.mono (l180_3 a0 v3_1 x7 x15 v6_2 x40 k4 k32 gt81 (ei _ (ai rfl ?_))) ?_
    ·simp only[simprocAttr, -Int.reduceNatCast',R0,h_31,eq_true hlt,hw,w34,w36a,w36b,w36c,w37,eq_true w37l,w39,w41,(show [V.int .u8 0,V.int .u8 0,V.int .u8 0,V.int .u8 0,V.int .u8 0,V.int .u8 0,V.int .u8 0,V.int .u8 0]=arc .u8 8 [] from rfl),w43,List.append_nil,w45a,w45b,w45c,w46,eq_true w46l,w48,w49,w52,eq_true w52l,w54,w56,w58]
    rintro _ e h ⟨rfl,hq⟩;simp only[simprocAttr, -Int.reduceNatCast',RR,RB];intro ht; subst ht;simp only[simprocAttr, -Int.reduceNatCast',RR,RB];exact ai rfl hq
  |false=>
   rw[if_neg Bool.false_ne_true]at ho;cases ho;simp only[simprocAttr, -Int.reduceNatCast',R0,b180_2,h_31,eq_true hlt,hw,w34,w36a,w36b,w36c,w37,eq_true w37l,w39,w41,(show [V.int .u8 0,V.int .u8 0,V.int .u8 0,V.int .u8 0,V.int .u8 0,V.int .u8 0,V.int .u8 0,V.int .u8 0]=arc .u8 8 [] from rfl),w43,List.append_nil,w45a,w45b,w45c,w46,eq_true w46l,w48,w49,w52,eq_true w52l,w54,w56,w58];intro ht; subst ht;simp only[simprocAttr, -Int.reduceNatCast',RR,RB];exact ai rfl (fin_ret (by simp only[simprocAttr, -Int.reduceNatCast',R0,fn_out,p180,Rs.ev,take_len_self,h_31,eq_true hlt,hw,w34,w36a,w36b,w36c,w37,eq_true w37l,w39,w41,(show [V.int .u8 0,V.int .u8 0,V.int .u8 0,V.int .u8 0,V.int .u8 0,V.int .u8 0,V.int .u8 0,V.int .u8 0]=arc .u8 8 [] from rfl),w43,List.append_nil,w45a,w45b,w45c,w46,eq_true w46l,w48,w49,w52,eq_true w52l,w54,w56,w58]))
 ·rintro v6_2 _ e h ⟨k32,rfl,h_31⟩ hge t1 ho
  unfold F180_2_D at ho;have w83:ofCells none (List.drop 1 (ceGDga a0))=some (V.int .i64 a0.Size):=by first|exact ceGDga_Size_one (a:=_) rfl|(simp only[List.drop_drop]; exact ceGDga_Size_one (by omega))|(show ofCells none (List.drop 0 _)=_; exact ceGDga_Size_one rfl)
  cases ho;simp only[simprocAttr, -Int.reduceNatCast',R0,b180_2,h_31,eq_false hge,w83];intro ht; subst ht;refine ai rfl (ei _ (ai rfl ?_));simp only[simprocAttr, -Int.reduceNatCast',R0,h_31,eq_false hge,w83]
def I180_1(a0:GDga)(v3_1:Int)(s:Unit)(e:Env)(h:Heap):Prop:=
 ∃k4:Nat,h=⟨[(0,none)],k4⟩∧e.length=114∧e.at 1=V.iptr (ceGDga a0)∧e.at 3=V.int .i64 v3_1
def P180_1(a0:GDga)(t:(Unit)⊕Bool)(x:Ex)(e:Env)(h:Heap):Prop:=
 match t with
 | .inl _=> x= .normal∧∃k4:Nat,h=⟨[(0,none)],k4⟩∧e.length=114
 | .inr r=> x= .ret∧Fin p180 (Enc.enc r) .ret e h
set_option maxHeartbeats 8000000 in
theorem l180_1(a0:GDga){lo:Int}{s:Unit}{t:(Unit)⊕Bool}(hF:forR lo a0.Size (F180_1_B a0) (F180_1_D a0) s=some t){e:Env}{h:Heap}(hI:I180_1 a0 lo s e h):W A c180_1 e h (P180_1 a0 t):=by
 show W A (.block 0 (.loop false b180_1)) e h _;rw[W_block];refine W_forR hF 1 (by obtain⟨_,rfl,_⟩:=hI; rfl) (I180_1 a0) hI ?_ ?_
 ·rintro v3_1 _ e h ⟨k4,rfl,h_3⟩ hlt hw o ho
  unfold F180_1_B at ho;have w6:ofCells none (List.drop 1 (ceGDga a0))=some (V.int .i64 a0.Size):=by first|exact ceGDga_Size_one (a:=_) rfl|(simp only[List.drop_drop]; exact ceGDga_Size_one (by omega))|(show ofCells none (List.drop 0 _)=_; exact ceGDga_Size_one rfl)
  obtain⟨x7,gx7,ho⟩:=bS ho;have w8:ans A 104 [V.int .i64 v3_1]=some (V.agg (arc .u8 8 x7.val)):=s104 v3_1 gx7;obtain⟨n9,gn9,ho⟩:=bS ho;obtain⟨w10a,w10b,w10c,w10d⟩:=ixI_w gn9;have w11:ofCells none (List.drop n9 (List.drop 2 (ceGDga a0)))=some (V.int .i64 (a0.Degrees.val.getD n9 0)):=by first|exact ceGDga_Degrees_one (i:=n9) (by omega) (by omega)|(simp only[List.drop_drop]; exact ceGDga_Degrees_one (i:=n9) (by omega) (by omega))|(show ofCells none (List.drop 0 _)=_; exact ceGDga_Degrees_one (i:=n9) (by omega) (by omega))
  obtain⟨x12,gx12,ho⟩:=bS ho;obtain⟨w13a,w13b⟩:=rem_w gx12;obtain⟨x14,gx14,ho⟩:=bS ho;have wx14:=chk_w gx14;obtain⟨x15,gx15,ho⟩:=bS ho;have wx15:=chk_w gx15;have w17:List.drop 8 (arc .u8 8 [])=[]:=List.drop_eq_nil_of_le (by rw[arc_len]; exact Nat.le_refl _);have w18:List.take 8 (List.drop (n9*8) (List.drop 82 (ceGDga a0)))=arc .u8 8 (arP a0.Table.val (n9*8) 8):=by first|exact ceGDga_Table_part (i:=n9*8) (m:=8) (by omega) (by omega)|(simp only[List.drop_drop]; exact ceGDga_Table_part (i:=n9*8) (m:=8) (by omega) (by omega))|(show List.take _ (List.drop 0 _)=_; exact ceGDga_Table_part (i:=n9*8) (m:=8) (by omega) (by omega))
  have w18l:8≤List.length (List.drop (n9*8) (List.drop 82 (ceGDga a0))):=by simp only[List.length_drop,arc_len,ceGDga_len]; omega
  obtain⟨x20,gx20,ho⟩:=bS ho;have w21:eqSV true 12 (Lay.arr 8 8 1 (Lay.int Go.IntKind.u8)) (V.agg (arc .u8 8 (arP a0.Table.val (n9*8) 8))) (V.agg (arc .u8 8 x7.val))=some (V.bool (!x20)):=eqS_arc1 gx20;cases x20 with
  |true=>
   rw[if_pos rfl]at ho;have w22:List.take 8 (List.drop (n9*64) (List.drop 82 (ceGDga a0)))=arc .u8 8 (arP a0.Table.val (n9*64) 8):=by first|exact ceGDga_Table_part (i:=n9*64) (m:=8) (by omega) (by omega)|(simp only[List.drop_drop]; exact ceGDga_Table_part (i:=n9*64) (m:=8) (by omega) (by omega))|(show List.take _ (List.drop 0 _)=_; exact ceGDga_Table_part (i:=n9*64) (m:=8) (by omega) (by omega))
   have w22l:8≤List.length (List.drop (n9*64) (List.drop 82 (ceGDga a0))):=by simp only[List.length_drop,arc_len,ceGDga_len]; omega
   obtain⟨x24,gx24,ho⟩:=bS ho;have w25:eqSV true 12 (Lay.arr 8 8 1 (Lay.int Go.IntKind.u8)) (V.agg (arc .u8 8 (arP a0.Table.val (n9*64) 8))) (V.agg (arc .u8 8 x7.val))=some (V.bool (!x24)):=eqS_arc1 gx24;cases x24 with
   |true=>
    rw[if_pos rfl]at ho;have w26:List.take 8 (List.drop (n9*8) (List.drop 18 (ceGDga a0)))=arc .u8 8 (arP a0.Diff.val (n9*8) 8):=by first|exact ceGDga_Diff_part (i:=n9*8) (m:=8) (by omega) (by omega)|(simp only[List.drop_drop]; exact ceGDga_Diff_part (i:=n9*8) (m:=8) (by omega) (by omega))|(show List.take _ (List.drop 0 _)=_; exact ceGDga_Diff_part (i:=n9*8) (m:=8) (by omega) (by omega))
    have w26l:8≤List.length (List.drop (n9*8) (List.drop 18 (ceGDga a0))):=by simp only[List.length_drop,arc_len,ceGDga_len]; omega
    obtain⟨x27,gx27,ho⟩:=bS ho;have w28:ans A 198 [V.agg (ceGDga a0),V.agg (arc .u8 8 (arP a0.Diff.val (n9*8) 8))]=some (V.agg (arc .u8 8 x27.val)):=s198 a0 ⟨(arP a0.Diff.val (n9*8) 8)⟩ gx27;obtain⟨x29,gx29,ho⟩:=bS ho;have w30:eqSV true 12 (Lay.arr 8 8 1 (Lay.int Go.IntKind.u8)) (V.agg (arc .u8 8 x27.val)) (V.agg (arc .u8 8 []))=some (V.bool (!x29)):=eqS_arc1 gx29;cases x29 with
    |true=>
     rw[if_pos rfl]at ho;obtain⟨t84,gt84,ho⟩:=bS ho;rcases t84 with _|r85
     ·dsimp only at ho
      simp only[simprocAttr, -Int.reduceNatCast',R0,b180_1,h_3,eq_true hlt,hw,w6,w8,w10a,w10b,w10c,w11,eq_false w13a,w13b,wx14,wx15,(show [V.int .u8 0,V.int .u8 0,V.int .u8 0,V.int .u8 0,V.int .u8 0,V.int .u8 0,V.int .u8 0,V.int .u8 0]=arc .u8 8 [] from rfl),w17,List.append_nil,(eq_true (show(0:Int) < ((8:Nat):Int) from by decide)),w18,eq_true w18l,w21,w22,eq_true w22l,w25,w26,eq_true w26l,w28,w30];refine W.mono (l180_2 a0 v3_1 x7 x15 k4 gt84 (ei _ (ai rfl ?_))) ?_
      ·simp only[simprocAttr, -Int.reduceNatCast',R0,h_3,eq_true hlt,hw,w6,w8,w10a,w10b,w10c,w11,eq_false w13a,w13b,wx14,wx15,(show [V.int .u8 0,V.int .u8 0,V.int .u8 0,V.int .u8 0,V.int .u8 0,V.int .u8 0,V.int .u8 0,V.int .u8 0]=arc .u8 8 [] from rfl),w17,List.append_nil,(eq_true (show(0:Int) < ((8:Nat):Int) from by decide)),w18,eq_true w18l,w21,w22,eq_true w22l,w25,w26,eq_true w26l,w28,w30]
      rintro _ e _ ⟨rfl,k32,rfl,h_33⟩;cases ho;simp only[simprocAttr, -Int.reduceNatCast',R0,h_33,eq_true hlt,hw,eq_false w13a,eq_true w18l,eq_true w22l,eq_true w26l];refine ai rfl (ei _ (ai rfl ?_));simp only[simprocAttr, -Int.reduceNatCast',R0,h_33,eq_true hlt,hw,eq_false w13a,eq_true w18l,eq_true w22l,eq_true w26l]
     ·dsimp only at ho
      cases ho;simp only[simprocAttr, -Int.reduceNatCast',R0,b180_1,h_3,eq_true hlt,hw,w6,w8,w10a,w10b,w10c,w11,eq_false w13a,w13b,wx14,wx15,(show [V.int .u8 0,V.int .u8 0,V.int .u8 0,V.int .u8 0,V.int .u8 0,V.int .u8 0,V.int .u8 0,V.int .u8 0]=arc .u8 8 [] from rfl),w17,List.append_nil,(eq_true (show(0:Int) < ((8:Nat):Int) from by decide)),w18,eq_true w18l,w21,w22,eq_true w22l,w25,w26,eq_true w26l,w28,w30];refine W.mono (l180_2 a0 v3_1 x7 x15 k4 gt84 (ei _ (ai rfl ?_))) ?_
      ·simp only[simprocAttr, -Int.reduceNatCast',R0,h_3,eq_true hlt,hw,w6,w8,w10a,w10b,w10c,w11,eq_false w13a,w13b,wx14,wx15,(show [V.int .u8 0,V.int .u8 0,V.int .u8 0,V.int .u8 0,V.int .u8 0,V.int .u8 0,V.int .u8 0,V.int .u8 0]=arc .u8 8 [] from rfl),w17,List.append_nil,(eq_true (show(0:Int) < ((8:Nat):Int) from by decide)),w18,eq_true w18l,w21,w22,eq_true w22l,w25,w26,eq_true w26l,w28,w30]
      rintro _ e h ⟨rfl,hq⟩;simp only[simprocAttr, -Int.reduceNatCast',RR,RB];intro ht; subst ht;simp only[simprocAttr, -Int.reduceNatCast',RR,RB];exact ai rfl hq
    |false=>
     rw[if_neg Bool.false_ne_true]at ho;cases ho;simp only[simprocAttr, -Int.reduceNatCast',R0,b180_1,h_3,eq_true hlt,hw,w6,w8,w10a,w10b,w10c,w11,eq_false w13a,w13b,wx14,wx15,(show [V.int .u8 0,V.int .u8 0,V.int .u8 0,V.int .u8 0,V.int .u8 0,V.int .u8 0,V.int .u8 0,V.int .u8 0]=arc .u8 8 [] from rfl),w17,List.append_nil,(eq_true (show(0:Int) < ((8:Nat):Int) from by decide)),w18,eq_true w18l,w21,w22,eq_true w22l,w25,w26,eq_true w26l,w28,w30];intro ht; subst ht;simp only[simprocAttr, -Int.reduceNatCast',RR,RB];exact ai rfl (fin_ret (by simp only[simprocAttr, -Int.reduceNatCast',R0,fn_out,p180,Rs.ev,take_len_self,h_3,eq_true hlt,hw,w6,w8,w10a,w10b,w10c,w11,eq_false w13a,w13b,wx14,wx15,(show [V.int .u8 0,V.int .u8 0,V.int .u8 0,V.int .u8 0,V.int .u8 0,V.int .u8 0,V.int .u8 0,V.int .u8 0]=arc .u8 8 [] from rfl),w17,List.append_nil,(eq_true (show(0:Int) < ((8:Nat):Int) from by decide)),w18,eq_true w18l,w21,w22,eq_true w22l,w25,w26,eq_true w26l,w28,w30]))
   |false=>
    rw[if_neg Bool.false_ne_true]at ho;cases ho;simp only[simprocAttr, -Int.reduceNatCast',R0,b180_1,h_3,eq_true hlt,hw,w6,w8,w10a,w10b,w10c,w11,eq_false w13a,w13b,wx14,wx15,(show [V.int .u8 0,V.int .u8 0,V.int .u8 0,V.int .u8 0,V.int .u8 0,V.int .u8 0,V.int .u8 0,V.int .u8 0]=arc .u8 8 [] from rfl),w17,List.append_nil,(eq_true (show(0:Int) < ((8:Nat):Int) from by decide)),w18,eq_true w18l,w21,w22,eq_true w22l,w25];intro ht; subst ht;simp only[simprocAttr, -Int.reduceNatCast',RR,RB];exact ai rfl (fin_ret (by simp only[simprocAttr, -Int.reduceNatCast',R0,fn_out,p180,Rs.ev,take_len_self,h_3,eq_true hlt,hw,w6,w8,w10a,w10b,w10c,w11,eq_false w13a,w13b,wx14,wx15,(show [V.int .u8 0,V.int .u8 0,V.int .u8 0,V.int .u8 0,V.int .u8 0,V.int .u8 0,V.int .u8 0,V.int .u8 0]=arc .u8 8 [] from rfl),w17,List.append_nil,(eq_true (show(0:Int) < ((8:Nat):Int) from by decide)),w18,eq_true w18l,w21,w22,eq_true w22l,w25]))
  |false=>
   rw[if_neg Bool.false_ne_true]at ho;cases ho;simp only[simprocAttr, -Int.reduceNatCast',R0,b180_1,h_3,eq_true hlt,hw,w6,w8,w10a,w10b,w10c,w11,eq_false w13a,w13b,wx14,wx15,(show [V.int .u8 0,V.int .u8 0,V.int .u8 0,V.int .u8 0,V.int .u8 0,V.int .u8 0,V.int .u8 0,V.int .u8 0]=arc .u8 8 [] from rfl),w17,List.append_nil,(eq_true (show(0:Int) < ((8:Nat):Int) from by decide)),w18,eq_true w18l,w21];intro ht; subst ht;simp only[simprocAttr, -Int.reduceNatCast',RR,RB];exact ai rfl (fin_ret (by simp only[simprocAttr, -Int.reduceNatCast',R0,fn_out,p180,Rs.ev,take_len_self,h_3,eq_true hlt,hw,w6,w8,w10a,w10b,w10c,w11,eq_false w13a,w13b,wx14,wx15,(show [V.int .u8 0,V.int .u8 0,V.int .u8 0,V.int .u8 0,V.int .u8 0,V.int .u8 0,V.int .u8 0,V.int .u8 0]=arc .u8 8 [] from rfl),w17,List.append_nil,(eq_true (show(0:Int) < ((8:Nat):Int) from by decide)),w18,eq_true w18l,w21]))
 ·rintro v3_1 _ e h ⟨k4,rfl,h_3⟩ hge t1 ho
  unfold F180_1_D at ho;have w86:ofCells none (List.drop 1 (ceGDga a0))=some (V.int .i64 a0.Size):=by first|exact ceGDga_Size_one (a:=_) rfl|(simp only[List.drop_drop]; exact ceGDga_Size_one (by omega))|(show ofCells none (List.drop 0 _)=_; exact ceGDga_Size_one rfl)
  cases ho;simp only[simprocAttr, -Int.reduceNatCast',R0,b180_1,h_3,eq_false hge,w86];intro ht; subst ht;refine ai rfl (ei _ (ai rfl ?_));simp only[simprocAttr, -Int.reduceNatCast',R0,h_3,eq_false hge,w86]
theorem s180(a0:GDga){r:Bool}(hF:F180 a0=some r):ans A 180 [V.agg (ceGDga a0)]=some (Enc.enc r):=by
 refine ans_of (f:=p180) rfl rfl rfl fun e hl he=>?_;have h0_0:e.at 0=V.agg (ceGDga a0):=he 0 _ rfl;have hl_0:e.length=114:=hl;clear he hl;have h_0:=ai hl_0 h0_0;show W A b180 e ⟨[],0⟩ _;unfold F180 at hF;obtain⟨x1,gx1,hF⟩:=bS hF;have w2:ans A 197 [V.agg (ceGDga a0)]=some (V.bool x1):=s197 a0 gx1;cases x1 with
 |true=>
  rw[if_pos rfl]at hF;obtain⟨t87,gt87,hF⟩:=bS hF;rcases t87 with _|r88
  ·dsimp only at hF
   simp only[simprocAttr,R0,b180,h_0,w2];refine W.mono (l180_1 a0 gt87 (ei _ (ai rfl ?_))) ?_
   ·simp only[simprocAttr,R0,h_0,w2]
   rintro _ e _ ⟨rfl,k4,rfl,hl_5⟩;cases hF;simp only[simprocAttr,R0,hl_5];exact fin_ret (by simp only[simprocAttr,R0,fn_out,p180,Rs.ev,take_len_self,hl_5])
  ·dsimp only at hF
   cases hF;simp only[simprocAttr,R0,b180,h_0,w2];refine W.mono (l180_1 a0 gt87 (ei _ (ai rfl ?_))) ?_
   ·simp only[simprocAttr,R0,h_0,w2]
   rintro _ e h ⟨rfl,hq⟩;simp only[simprocAttr,RR,RB];exact hq
 |false=>
  rw[if_neg Bool.false_ne_true]at hF;cases hF;simp only[simprocAttr,R0,b180,h_0,w2];exact fin_ret (by simp only[simprocAttr,R0,fn_out,p180,Rs.ev,take_len_self,h_0,w2])
def F158_1_B(a0:GDga)(a1:List (Ar .u8 8))(v5_1:Int)(s:Unit):Option ((Unit)⊕((Unit)⊕Int)):=
 (getI a1 v5_1).bind fun x8=>
(F181 a0.Prime a0.Size x8).bind fun x11=>
if x11=true then
 some (.inl ())
else
 some (.inr (.inr 1))
def F158_1_D(a0:GDga)(a1:List (Ar .u8 8))(v5_1:Int)(s:Unit):Option ((Unit)⊕Int):=
 some (.inl ())
def F158(a0:GDga)(a1:List (Ar .u8 8)):Option Int:=
 (F180 a0).bind fun x1=>
 if x1=true then
  (forR 0 (a1.length:Int) (F158_1_B a0 a1) (F158_1_D a0 a1) ()).bind fun t13=> match t13 with
   | .inl _=>
    some 0
   | .inr r14=> some r14
 else
  some 1
def I158_1(a0:GDga)(a1:List (Ar .u8 8))(v5_1:Int)(s:Unit)(e:Env)(h:Heap):Prop:=
 ∃k4:Nat,h=⟨[(0,none)],k4⟩∧e.length=25∧e.at 1=V.isl (a1.map Enc.enc)∧e.at 2=V.iptr (ceGDga a0)∧e.at 5=V.int .i64 v5_1
def P158_1(a0:GDga)(a1:List (Ar .u8 8))(t:(Unit)⊕Int)(x:Ex)(e:Env)(h:Heap):Prop:=
 match t with
 | .inl _=> x= .normal∧∃k4:Nat,h=⟨[(0,none)],k4⟩∧e.length=25
 | .inr r=> x= .ret∧Fin p158 (Enc.enc r) .ret e h
theorem l158_1(a0:GDga)(a1:List (Ar .u8 8)){lo:Int}{s:Unit}{t:(Unit)⊕Int}(hF:forR lo (a1.length:Int) (F158_1_B a0 a1) (F158_1_D a0 a1) s=some t){e:Env}{h:Heap}(hI:I158_1 a0 a1 lo s e h):W A c158_1 e h (P158_1 a0 a1 t):=by
 show W A (.block 0 (.loop false b158_1)) e h _;rw[W_block];refine W_forR hF 1 (by obtain⟨_,rfl,_⟩:=hI; rfl) (I158_1 a0 a1) hI ?_ ?_
 ·rintro v5_1 _ e h ⟨k4,rfl,h_3⟩ hlt hw o ho
  unfold F158_1_B at ho;have w6:ofCells none (ceGDga a0)=some (V.int .i64 a0.Prime):=by first|exact ceGDga_Prime_one (a:=_) rfl|(simp only[List.drop_drop]; exact ceGDga_Prime_one (by omega))|(show ofCells none (List.drop 0 _)=_; exact ceGDga_Prime_one rfl)
  have w7:ofCells none (List.drop 1 (ceGDga a0))=some (V.int .i64 a0.Size):=by first|exact ceGDga_Size_one (a:=_) rfl|(simp only[List.drop_drop]; exact ceGDga_Size_one (by omega))|(show ofCells none (List.drop 0 _)=_; exact ceGDga_Size_one rfl)
  obtain⟨x8,gx8,ho⟩:=bS ho;obtain⟨w9a,w9b⟩:=getI_w gx8;obtain⟨x11,gx11,ho⟩:=bS ho;have w12:ans A 181 [V.int .i64 a0.Prime,V.int .i64 a0.Size,V.agg (arc .u8 8 x8.val)]=some (V.bool x11):=s181 a0.Prime a0.Size x8 gx11;cases x11 with
  |true=>
   rw[if_pos rfl]at ho;cases ho;simp only[simprocAttr,R0,b158_1,h_3,eq_true hlt,hw,w6,w7,w9a,w9b,w12];refine ai rfl (ei _ (ai rfl ?_));simp only[simprocAttr,R0,h_3,eq_true hlt,hw,w6,w7,w9a,w9b,w12]
  |false=>
   rw[if_neg Bool.false_ne_true]at ho;cases ho;simp only[simprocAttr,R0,b158_1,h_3,eq_true hlt,hw,w6,w7,w9a,w9b,w12];intro ht; subst ht;simp only[simprocAttr,RR,RB];exact ai rfl (fin_ret (by simp only[simprocAttr,R0,fn_out,p158,Rs.ev,take_len_self,h_3,eq_true hlt,hw,w6,w7,w9a,w9b,w12]))
 ·rintro v5_1 _ e h ⟨k4,rfl,h_3⟩ hge t1 ho
  unfold F158_1_D at ho;cases ho;simp only[simprocAttr,R0,b158_1,h_3,eq_false hge];intro ht; subst ht;refine ai rfl (ei _ (ai rfl ?_));simp only[simprocAttr,R0,h_3,eq_false hge]
theorem s158(a0:GDga)(a1:List (Ar .u8 8)){r:Int}(hF:F158 a0 a1=some r):ans A 158 [V.agg (ceGDga a0),V.isl (a1.map Enc.enc)]=some (Enc.enc r):=by
 refine ans_of (f:=p158) rfl rfl rfl fun e hl he=>?_;have h0_0:e.at 0=V.agg (ceGDga a0):=he 0 _ rfl;have h1_0:e.at 1=V.isl (a1.map Enc.enc):=he 1 _ rfl;have hl_0:e.length=25:=hl;clear he hl;have h_0:=ai hl_0 (ai h0_0 h1_0);show W A b158 e ⟨[],0⟩ _;unfold F158 at hF;obtain⟨x1,gx1,hF⟩:=bS hF;have w2:ans A 180 [V.agg (ceGDga a0)]=some (V.bool x1):=s180 a0 gx1;cases x1 with
 |true=>
  rw[if_pos rfl]at hF;obtain⟨t13,gt13,hF⟩:=bS hF;rcases t13 with _|r14
  ·dsimp only at hF
   simp only[simprocAttr,R0,b158,h_0,w2];refine W.mono (l158_1 a0 a1 gt13 (ei _ (ai rfl ?_))) ?_
   ·simp only[simprocAttr,R0,h_0,w2]
   rintro _ e _ ⟨rfl,k4,rfl,hl_5⟩;cases hF;simp only[simprocAttr,R0,hl_5];exact fin_ret (by simp only[simprocAttr,R0,fn_out,p158,Rs.ev,take_len_self,hl_5])
  ·dsimp only at hF
   cases hF;simp only[simprocAttr,R0,b158,h_0,w2];refine W.mono (l158_1 a0 a1 gt13 (ei _ (ai rfl ?_))) ?_
   ·simp only[simprocAttr,R0,h_0,w2]
   rintro _ e h ⟨rfl,hq⟩;simp only[simprocAttr,RR,RB];exact hq
 |false=>
  rw[if_neg Bool.false_ne_true]at hF;cases hF;simp only[simprocAttr,R0,b158,h_0,w2];exact fin_ret (by simp only[simprocAttr,R0,fn_out,p158,Rs.ev,take_len_self,h_0,w2])
def F99(a0:GComplex)(a1:Int):Option Int:=
 (chk ((a0.Dims.length:Int) - 1)).bind fun x1=>
 (F54 a1 0 x1).bind fun x2=>
 if x2=true then
  (getI a0.Dims a1).bind fun x4=>
  some x4
 else
  some 0
theorem s99(a0:GComplex)(a1:Int){r:Int}(hF:F99 a0 a1=some r):ans A 99 [(eC a0),V.int .i64 a1]=some (Enc.enc r):=by
 refine ans_of (f:=p99) rfl rfl rfl fun e hl he=>?_;have h0_0:e.at 0=(eC a0):=he 0 _ rfl;have h1_0:e.at 1=V.int .i64 a1:=he 1 _ rfl;have hl_0:e.length=17:=hl;clear he hl;have h_0:=ai hl_0 (ai h0_0 h1_0);show W A b99 e ⟨[],0⟩ _;unfold F99 at hF;obtain⟨x1,gx1,hF⟩:=bS hF;have wx1:=chk_w gx1;obtain⟨x2,gx2,hF⟩:=bS hF;have w3:ans A 54 [V.int .i64 a1,V.int .i64 0,V.int .i64 x1]=some (V.bool x2):=s54 a1 0 x1 gx2;cases x2 with
 |true=>
  rw[if_pos rfl]at hF;obtain⟨x4,gx4,hF⟩:=bS hF;obtain⟨w5a,w5b⟩:=getI_w gx4;cases hF;simp only[simprocAttr,R0,b99,h_0,wx1,w3,w5a,w5b];exact fin_ret (by simp only[simprocAttr,R0,fn_out,p99,Rs.ev,take_len_self,h_0,wx1,w3,w5a,w5b])
 |false=>
  rw[if_neg Bool.false_ne_true]at hF;cases hF;simp only[simprocAttr,R0,b99,h_0,wx1,w3];exact fin_ret (by simp only[simprocAttr,R0,fn_out,p99,Rs.ev,take_len_self,h_0,wx1,w3])
def F76_1_S(a0:GComplex)(a1:Int)(s:(List (List Int))×Int):Option (((List (List Int))×Int)⊕((List (List Int)))):=
 match s with
 |(o1_1,v6_1)=>
  (F99 a0 a1).bind fun x11=>
  if v6_1 < x11 then
   (app 24 o1_1 ([([]:List Int)])).bind fun l15=>
   (chk (v6_1+1)).bind fun x16=>
   some (.inl (l15,x16))
  else
   some (.inr o1_1)
def F76(a0:GComplex)(a1:Int):Option (List (List Int)):=
 (chk ((a0.Dims.length:Int) - 1)).bind fun x1=>
 (F54 a1 1 x1).bind fun x2=>
 if x2=true then
  (chk (a1 - 1)).bind fun x4=>
  (getI a0.Maps x4).bind fun x5=>
  some x5
 else
  (loopW (F76_1_S a0 a1) ([],0)).bind fun zo1_1=>
  some zo1_1
def I76_1(a0:GComplex)(a1:Int)(s:(List (List Int))×Int)(e:Env)(h:Heap):Prop:=
 match s with
 |(o1_1,v6_1)=>
  ∃u8 k9:Nat,h=⟨[(0,none),(u8,some (o1_1.map Enc.enc))],k9⟩∧e.length=32∧e.at 1=V.int .i64 a1∧e.at 2=V.iptr [V.int .i64 a0.Prime,V.isl (a0.Dims.map Enc.enc),V.isl (a0.Maps.map Enc.enc)]∧e.at 5=V.sl 1 u8 0 o1_1.length 1∧e.at 6=V.int .i64 v6_1
def P76_1(a0:GComplex)(a1:Int)(zo1_1:(List (List Int)))(x:Ex)(e:Env)(h:Heap):Prop:=
 x= .normal∧∃u8 k9:Nat,h=⟨[(0,none),(u8,some (zo1_1.map Enc.enc))],k9⟩∧e.length=32∧e.at 5=V.sl 1 u8 0 zo1_1.length 1
theorem l76_1(a0:GComplex)(a1:Int){s:(List (List Int))×Int}{t:(List (List Int))}(hF:loopW (F76_1_S a0 a1) s=some t){e:Env}{h:Heap}(hI:I76_1 a0 a1 s e h):W A c76_1 e h (P76_1 a0 a1 t):=by
 show W A (.block 0 (.loop false b76_1)) e h _;rw[W_block];refine W_loop hF 2 (by rcases s with⟨_,_⟩; obtain⟨_,_,rfl,_⟩:=hI; rfl) (I76_1 a0 a1) hI ?_
 ·rintro⟨o1_1,v6_1⟩ e h ⟨u8,k9,rfl,h_7⟩ o ho
  unfold F76_1_S at ho;dsimp only at ho;obtain⟨x11,gx11,ho⟩:=bS ho;have w12:ans A 99 [(eC a0),V.int .i64 a1]=some (V.int .i64 x11):=s99 a0 a1 gx11;by_cases c13:v6_1 < x11
  ·rw[if_pos c13]at ho
   obtain⟨l15,gl15,ho⟩:=bS ho;have w14:=fun a b c d e=> appendV_w (α:=List Int) (n:=o1_1.length) (m:=1) (ds:=[V.isl []]) gl15 (by first|rfl|simp) (by first|rfl|simp) rfl a b c d e;have w14l:=app_len gl15;obtain⟨x16,gx16,ho⟩:=bS ho;have wx16:=chk_w gx16;cases ho;simp only[simprocAttr,R0,b76_1,h_7,w12,eq_true c13,w14,wx16];refine ai rfl (ei _ (ei _ (ai rfl ?_)));simp only[simprocAttr,R0,h_7,w12,eq_true c13,w14,wx16]
  ·rw[if_neg c13]at ho
   cases ho;simp only[simprocAttr,R0,b76_1,h_7,w12,eq_false c13];intro ht; subst ht;simp only[simprocAttr,RR,RB];refine ai rfl (ei _ (ei _ (ai rfl ?_)));simp only[simprocAttr,R0,h_7,w12,eq_false c13]
theorem s76(a0:GComplex)(a1:Int){r:List (List Int)}(hF:F76 a0 a1=some r):ans A 76 [(eC a0),V.int .i64 a1]=some (Enc.enc r):=by
 refine ans_of (f:=p76) rfl rfl rfl fun e hl he=>?_;have h0_0:e.at 0=(eC a0):=he 0 _ rfl;have h1_0:e.at 1=V.int .i64 a1:=he 1 _ rfl;have hl_0:e.length=32:=hl;clear he hl;show W A b76 e ⟨[],0⟩ _;unfold F76 at hF;obtain⟨x1,gx1,hF⟩:=bS hF;have wx1:=chk_w gx1;obtain⟨x2,gx2,hF⟩:=bS hF;have w3:ans A 54 [V.int .i64 a1,V.int .i64 1,V.int .i64 x1]=some (V.bool x2):=s54 a1 1 x1 gx2;cases x2 with
 |true=>
  rw[if_pos rfl]at hF;obtain⟨x4,gx4,hF⟩:=bS hF;have wx4:=chk_w gx4;obtain⟨x5,gx5,hF⟩:=bS hF;obtain⟨w6a,w6b⟩:=getI_w gx5;have hE:=Option.some.inj hF; subst hE;simp only[simprocAttr, -Int.reduceNatCast',R0,b76,hl_0,h0_0,h1_0,wx1,w3,wx4,w6a,w6b];exact fin_ret (by simp only[simprocAttr, -Int.reduceNatCast',R0,fn_out,p76,Rs.ev,take_len_self,hl_0,h0_0,h1_0,wx1,w3,wx4,w6a,w6b])
 |false=>
  rw[if_neg Bool.false_ne_true]at hF;obtain⟨zo1_1,gt17,hF⟩:=bS hF;simp only[simprocAttr, -Int.reduceNatCast',R0,b76,hl_0,h0_0,h1_0,wx1,w3];refine W.mono (l76_1 a0 a1 gt17 (ei _ (ei _ (ai rfl ?_)))) ?_
  ·simp only[simprocAttr, -Int.reduceNatCast',R0,hl_0,h0_0,h1_0,wx1,w3]
  rintro _ e _ ⟨rfl,u8,k9,rfl,hl_10,h5_10⟩;have hE:=Option.some.inj hF; subst hE;simp only[simprocAttr, -Int.reduceNatCast',R0,hl_10,h5_10];exact fin_ret (by simp only[simprocAttr, -Int.reduceNatCast',R0,fn_out,p76,Rs.ev,take_len_self,hl_10,h5_10,frzs (α:=List Int) zo1_1,takes (α:=List Int) zo1_1])
def F135_1_B(a0:Int)(a1:Int)(v5_1:Int)(s:Unit):Option ((Unit)⊕((Unit)⊕Int)):=
 (F127 a0 a1).bind fun x4=>
(chk (v5_1*x4)).bind fun x6=>
(remI x6 a0).bind fun x7=>
if x7=1 then
 some (.inr (.inr v5_1))
else
 some (.inl ())
def F135_1_D(a0:Int)(a1:Int)(v5_1:Int)(s:Unit):Option ((Unit)⊕Int):=
 some (.inl ())
def F135(a0:Int)(a1:Int):Option Int:=
 (forR 1 a0 (F135_1_B a0 a1) (F135_1_D a0 a1) ()).bind fun t10=> match t10 with
  | .inl _=>
   some 0
  | .inr r11=> some r11
def I135_1(a0:Int)(a1:Int)(v5_1:Int)(s:Unit)(e:Env)(h:Heap):Prop:=
 ∃k2:Nat,h=⟨[],k2⟩∧e.length=20∧e.at 0=V.int .i64 a0∧e.at 1=V.int .i64 a1∧e.at 5=V.int .i64 v5_1
def P135_1(a0:Int)(a1:Int)(t:(Unit)⊕Int)(x:Ex)(e:Env)(h:Heap):Prop:=
 match t with
 | .inl _=> x= .normal∧∃k2:Nat,h=⟨[],k2⟩∧e.length=20
 | .inr r=> x= .ret∧Fin p135 (Enc.enc r) .ret e h
theorem l135_1(a0:Int)(a1:Int){lo:Int}{s:Unit}{t:(Unit)⊕Int}(hF:forR lo a0 (F135_1_B a0 a1) (F135_1_D a0 a1) s=some t){e:Env}{h:Heap}(hI:I135_1 a0 a1 lo s e h):W A c135_1 e h (P135_1 a0 a1 t):=by
 show W A (.block 0 (.loop false b135_1)) e h _;rw[W_block];refine W_forR hF 0 (by obtain⟨_,rfl,_⟩:=hI; rfl) (I135_1 a0 a1) hI ?_ ?_
 ·rintro v5_1 _ e h ⟨k2,rfl,h_1⟩ hlt hw o ho
  unfold F135_1_B at ho;obtain⟨x4,gx4,ho⟩:=bS ho;have w5:ans A 127 [V.int .i64 a0,V.int .i64 a1]=some (V.int .i64 x4):=s127 a0 a1 gx4;obtain⟨x6,gx6,ho⟩:=bS ho;have wx6:=chk_w gx6;obtain⟨x7,gx7,ho⟩:=bS ho;obtain⟨w8a,w8b⟩:=rem_w gx7;by_cases c9:x7=1
  ·rw[if_pos c9]at ho
   cases ho;simp only[simprocAttr,R0,b135_1,h_1,eq_true hlt,hw,w5,wx6,eq_false w8a,w8b,eq_true c9];intro ht; subst ht;simp only[simprocAttr,RR,RB];exact ai rfl (fin_ret (by simp only[simprocAttr,R0,fn_out,p135,Rs.ev,take_len_self,h_1,eq_true hlt,hw,w5,wx6,eq_false w8a,w8b,eq_true c9]))
  ·rw[if_neg c9]at ho
   cases ho;simp only[simprocAttr,R0,b135_1,h_1,eq_true hlt,hw,w5,wx6,eq_false w8a,w8b,eq_false c9];refine ai rfl (ei _ (ai rfl ?_));simp only[simprocAttr,R0,h_1,eq_true hlt,hw,w5,wx6,eq_false w8a,w8b,eq_false c9]
 ·rintro v5_1 _ e h ⟨k2,rfl,h_1⟩ hge t1 ho
  unfold F135_1_D at ho;cases ho;simp only[simprocAttr,R0,b135_1,h_1,eq_false hge];intro ht; subst ht;refine ai rfl (ei _ (ai rfl ?_));simp only[simprocAttr,R0,h_1,eq_false hge]
theorem s135(a0:Int)(a1:Int){r:Int}(hF:F135 a0 a1=some r):ans A 135 [V.int .i64 a0,V.int .i64 a1]=some (Enc.enc r):=by
 refine ans_of (f:=p135) rfl rfl rfl fun e hl he=>?_;have h0_0:e.at 0=V.int .i64 a0:=he 0 _ rfl;have h1_0:e.at 1=V.int .i64 a1:=he 1 _ rfl;have hl_0:e.length=20:=hl;clear he hl;have h_0:=ai hl_0 (ai h0_0 h1_0);show W A b135 e ⟨[],0⟩ _;unfold F135 at hF;obtain⟨t10,gt10,hF⟩:=bS hF;rcases t10 with _|r11
 ·dsimp only at hF
  simp only[simprocAttr,R0,b135,h_0];refine W.mono (l135_1 a0 a1 gt10 (ei _ (ai rfl ?_))) ?_
  ·simp only[simprocAttr,R0,h_0]
  rintro _ e _ ⟨rfl,k2,rfl,hl_3⟩;cases hF;simp only[simprocAttr,R0,hl_3];exact fin_ret (by simp only[simprocAttr,R0,fn_out,p135,Rs.ev,take_len_self,hl_3])
 ·dsimp only at hF
  cases hF;simp only[simprocAttr,R0,b135,h_0];refine W.mono (l135_1 a0 a1 gt10 (ei _ (ai rfl ?_))) ?_
  ·simp only[simprocAttr,R0,h_0]
  rintro _ e h ⟨rfl,hq⟩;simp only[simprocAttr,RR,RB];exact hq
end
end Rv
